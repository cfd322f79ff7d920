import PyProof.Rows.All
import HandS.ForMost
import HandS.Deep
import HandS.TupAny
import HandS.TupMul
import HandS.IsInst
import HandS.Conv
import HandS.Exc
import HandS.ExcOwn
import HandS.TryMany
import HandS.TryOnly
import HandS.Wide
import HandS.Iter
import HandS.Zip
import HandS.WordsExc
import HandS.Lambda
import HandS.HeadWalk
import HandS.HeadHook4
import HandS.Style
import PyProof.Rows.StrRev
import HandS.Small
import HandS.Defaults
import HandS.HeadEnd
import HandS.EndBits
import HandS.HeadHook1
import HandS.HeadHook2
import HandS.Head0
import HandS.Head1
import HandS.Head2
import HandS.CallLocal
import KE.GoesMore
import KE.GoesZip
import HandS.Codes
import PySem.Challenge.RW_gluedboards_k06_plans_beside_each_other
set_option Elab.async false
set_option linter.all false
set_option maxRecDepth 100000
set_option maxHeartbeats 0
set_option autoImplicit false
/-! The data, the store, the results: what a def of the text computes, over plain trees. -/
namespace GB
open PySem L2

/-- the built-in types that stand as values -/
inductive BT where
  | int | str | bool | tuple | list | dict | none
  deriving DecidableEq
def BT.name : BT → String
  | .int => "int" | .str => "str" | .bool => "bool" | .tuple => "tuple" | .list => "list" | .dict => "dict" | .none => "NoneType"
/-- a value as data: trees that are never written, and references to the store -/
inductive D where
  | non | bl (b : Bool) | int (i : Int) | str (s : Str)
  | tup (xs : List D) | lst (xs : List D)
  | own (k : Nat) | ty (n : BT) | gl (x : Str)
/-- what stands in the store: frz = it is being walked -/
inductive O where
  | lst (xs : List D) | dK (kvs : List (Key × D)) | dT (kvs : List (List Key × D))
  | ins (C : Str) (fs : List (Str × D))
  | frz (o : O)
abbrev Sto := List O
abbrev Env := List (Option D)
/-- an exception: the name of its class, its attributes -/
structure Exn where
  cls : Str
  fs : List (Str × D)
inductive R (α : Type) where
  | ok (a : α) (S : Sto) | ex (x : Exn) (S : Sto) | no
def R.bind {α β : Type} (r : R α) (k : α → Sto → R β) : R β := match r with
  | .ok a S => k a S
  | .ex x S => .ex x S
  | .no => .no
abbrev Sem := Env → Sto → R D
/-- a statement's end -/
inductive SR where
  | nx (ρ : Env) (S : Sto) | rt (d : D) (S : Sto) | bk (ρ : Env) (S : Sto) | ct (ρ : Env) (S : Sto) | ex (x : Exn) (ρ : Env) (S : Sto) | no
abbrev SemS := Env → Sto → SR

/-- the text, its world, what the top has written, the names of the module; the tables of code objects -/
structure Pc where
  P : Program
  w : World
  K : PySem.W.Frag
  mg : Str → Option Value
  base : Heap
  T : List (Addr × Str)

/-! ### values stand for data -/
/-- what F says of an address: a thing twice locked only stands guard there -/
def ung : HO → HO
  | .frz _ (.frz _ u) => u
  | o => o
def Flat (u : HO) : Prop := ∀ ob w, u ≠ .frz ob w
theorem ung_flat {u : HO} (h : Flat u) : ung u = u := by
  cases u <;> first | rfl | exact absurd rfl (h _ _)
theorem ung_frz {ob : Obj} {u : HO} (h : Flat u) : ung (.frz ob u) = .frz ob u := by
  cases u <;> first | rfl | exact absurd rfl (h _ _)
def gob : Obj := { cls := .none, data := .fields #[] }
abbrev guard (u : HO) : HO := .frz gob (.frz gob u)
/-- a list, a tuple that stands in F for good -/
def DqL (K : PySem.W.Frag) (F : Hp) (a : Addr) (xs : List V) : Prop := F a = some (.lst xs) ∨ SqL K (fun _ => none) a xs
def DqT (K : PySem.W.Frag) (F : Hp) (a : Addr) (xs : List V) : Prop := F a = some (.tup xs)
mutual
inductive Rp (p : Pc) (F : Hp) (α : List Addr) : V → D → Prop
  | non : Rp p F α .non .non
  | bl (b : Bool) : Rp p F α (.bl b) (.bl b)
  | int (i : Int) : Rp p F α (.int i) (.int i)
  | str (x : Str) : Rp p F α (.str x) (.str x)
  | tup {a : Addr} {xs : List V} {ds : List D} : DqT p.K F a xs → Rps p F α xs ds → Rp p F α (.ref a) (.tup ds)
  | lst {a : Addr} {xs : List V} {ds : List D} : DqL p.K F a xs → Rps p F α xs ds → Rp p F α (.ref a) (.lst ds)
  | own {a : Addr} {k : Nat} : α[k]? = some a → Rp p F α (.ref a) (.own k)
  | ty (n : BT) : Rp p F α (.ty n.name) (.ty n)
  | gl {x : Str} {a : Addr} : p.mg x = some (.ref a) → Rp p F α (.ref a) (.gl x)
inductive Rps (p : Pc) (F : Hp) (α : List Addr) : List V → List D → Prop
  | nil : Rps p F α [] []
  | cons {v : V} {vs : List V} {d : D} {ds : List D} : Rp p F α v d → Rps p F α vs ds → Rps p F α (v :: vs) (d :: ds)
end

/-- the one state reaches the other: what is data stays, the store's places stay -/
structure Ext (F : Hp) (α : List Addr) (F' : Hp) (α' : List Addr) : Prop where
  f : ∀ a o, F a = some o → F' a = some o
  a : ∀ (k : Nat) (b : Addr), α[k]? = some b → α'[k]? = some b
/-- .. but for what is being walked -/
structure ExtW (F : Hp) (α : List Addr) (F' : Hp) (α' : List Addr) : Prop where
  f : ∀ a o, F a = some o → (∀ ob u, o ≠ .frz ob u) → F' a = some o
  a : ∀ (k : Nat) (b : Addr), α[k]? = some b → α'[k]? = some b
theorem Ext.refl (F : Hp) (α : List Addr) : Ext F α F α := ⟨fun _ _ h => h, fun _ _ h => h⟩
theorem Ext.trans {F F1 F2 : Hp} {α α1 α2 : List Addr} (x : Ext F α F1 α1) (y : Ext F1 α1 F2 α2) : Ext F α F2 α2 := ⟨fun a o h => y.f a o (x.f a o h), fun k b h => y.a k b (x.a k b h)⟩
theorem Ext.w {F F' : Hp} {α α' : List Addr} (x : Ext F α F' α') : ExtW F α F' α' := ⟨fun a o h _ => x.f a o h, x.a⟩
theorem ExtW.dql {K : PySem.W.Frag} {F F' : Hp} {α α' : List Addr} (x : ExtW F α F' α') {a : Addr} {xs : List V} (h : DqL K F a xs) : DqL K F' a xs := by
  rcases h with h | h
  · exact .inl (x.f _ _ h fun _ _ z => nomatch z)
  · exact .inr h
theorem ExtW.dqt {K : PySem.W.Frag} {F F' : Hp} {α α' : List Addr} (x : ExtW F α F' α') {a : Addr} {xs : List V} (h : DqT K F a xs) : DqT K F' a xs := by
  exact x.f _ _ h fun _ _ z => nomatch z
theorem DqL.sq {K : PySem.W.Frag} {F H : Hp} (h : ∀ a o, F a = some o → Flat o → H a = some o) {a : Addr} {xs : List V} (q : DqL K F a xs) : SqL K H a xs := by
  rcases q with q | (q | ⟨o, q⟩) | q
  · exact .inl (.inl (h _ _ q fun _ _ z => nomatch z))
  · cases q
  · cases q
  · exact .inr q
theorem DqT.sq {K : PySem.W.Frag} {F H : Hp} (h : ∀ a o, F a = some o → Flat o → H a = some o) {a : Addr} {xs : List V} (q : DqT K F a xs) : SqT K H a xs := by
  exact .inl (.inl (h _ _ q fun _ _ z => nomatch z))
mutual
theorem Rp.extW {p : Pc} {F F' : Hp} {α α' : List Addr} (x : ExtW F α F' α') : ∀ (d : D) (v : V), Rp p F α v d → Rp p F' α' v d
  | .non, _, h => by cases h; exact .non
  | .bl b, _, h => by cases h; exact .bl b
  | .int i, _, h => by cases h; exact .int i
  | .str i, _, h => by cases h; exact .str i
  | .tup ds, _, h => by
    cases h with
    | tup h1 h2 => exact .tup (x.dqt h1) (Rps.extW x ds _ h2)
  | .lst ds, _, h => by
    cases h with
    | lst h1 h2 => exact .lst (x.dql h1) (Rps.extW x ds _ h2)
  | .own k, _, h => by
    cases h with
    | own h1 => exact .own (x.a _ _ h1)
  | .ty n, _, h => by cases h; exact .ty n
  | .gl n, _, h => by
    cases h with
    | gl h1 => exact .gl h1
theorem Rps.extW {p : Pc} {F F' : Hp} {α α' : List Addr} (x : ExtW F α F' α') : ∀ (ds : List D) (vs : List V), Rps p F α vs ds → Rps p F' α' vs ds
  | [], _, h => by cases h; exact .nil
  | d :: ds, _, h => by
    cases h with
    | cons h1 h2 => exact .cons (Rp.extW x d _ h1) (Rps.extW x ds _ h2)
end
theorem Rp.ext {p : Pc} {F F' : Hp} {α α' : List Addr} (x : Ext F α F' α') (d : D) (v : V) (h : Rp p F α v d) : Rp p F' α' v d := Rp.extW x.w d v h
theorem Rps.ext {p : Pc} {F F' : Hp} {α α' : List Addr} (x : Ext F α F' α') (d : List D) (v : List V) (h : Rps p F α v d) : Rps p F' α' v d := Rps.extW x.w d v h
section
variable {p : Pc} {F : Hp} {α : List Addr}
theorem Rps.length : ∀ {vs : List V} {ds : List D}, Rps p F α vs ds → vs.length = ds.length
  | _, _, .nil => rfl
  | _, _, .cons _ t => by rw [List.length_cons, List.length_cons, Rps.length t]
theorem Rps.get : ∀ {vs : List V} {ds : List D} {i : Nat} {d : D}, Rps p F α vs ds → ds[i]? = some d → ∃ v, vs[i]? = some v ∧ Rp p F α v d
  | _, _, _, _, .nil, e => by simp at e
  | _, _, 0, _, .cons r _, e => by simp at e; subst e; exact ⟨_, rfl, r⟩
  | _, _, i + 1, d, .cons _ t, e => by
    obtain ⟨u, h1, h2⟩ := Rps.get (i := i) (d := d) t (by simpa using e)
    exact ⟨u, by simpa using h1, h2⟩
theorem Rps.getv : ∀ {vs : List V} {ds : List D} {i : Nat} {v : V}, Rps p F α vs ds → vs[i]? = some v → ∃ d, ds[i]? = some d ∧ Rp p F α v d
  | _, _, _, _, .nil, e => by simp at e
  | _, _, 0, _, .cons r _, e => by simp at e; subst e; exact ⟨_, rfl, r⟩
  | _, _, i + 1, d, .cons _ t, e => by
    obtain ⟨u, h1, h2⟩ := Rps.getv (i := i) t (by simpa using e)
    exact ⟨u, by simpa using h1, h2⟩
theorem Rps.append : ∀ {xs ys : List V} {us ws : List D}, Rps p F α xs us → Rps p F α ys ws → Rps p F α (xs ++ ys) (us ++ ws)
  | _, _, _, _, .nil, s => s
  | _, _, _, _, .cons r t, s => .cons r (Rps.append t s)
theorem Rps.take : ∀ {xs : List V} {us : List D} (n : Nat), Rps p F α xs us → Rps p F α (xs.take n) (us.take n)
  | _, _, 0, _ => .nil
  | _, _, _ + 1, .nil => .nil
  | _, _, n + 1, .cons r t => .cons r (Rps.take n t)
theorem Rps.drop : ∀ {xs : List V} {us : List D} (n : Nat), Rps p F α xs us → Rps p F α (xs.drop n) (us.drop n)
  | _, _, 0, r => r
  | _, _, _ + 1, .nil => .nil
  | _, _, n + 1, .cons _ t => Rps.drop n t
theorem Rps.revAux : ∀ {xs : List V} {us : List D} {ys : List V} {ws : List D}, Rps p F α xs us → Rps p F α ys ws → Rps p F α (xs.reverseAux ys) (us.reverseAux ws)
  | _, _, _, _, .nil, s => s
  | _, _, _, _, .cons r t, s => by
    have q := Rps.revAux t (Rps.cons r s)
    exact q
theorem Rps.reverse {xs : List V} {us : List D} (h : Rps p F α xs us) : Rps p F α xs.reverse us.reverse := Rps.revAux h .nil
theorem Rps.set {x : V} {u : D} (r : Rp p F α x u) : ∀ {xs : List V} {us : List D} (i : Nat), Rps p F α xs us → Rps p F α (xs.set i x) (us.set i u)
  | _, _, _, .nil => .nil
  | _, _, 0, .cons _ t => .cons r t
  | _, _, i + 1, .cons q t => .cons q (Rps.set r i t)
theorem Rps.flat {xs : List V} {us : List D} (h : Rps p F α xs us) : ∀ n : Nat, Rps p F α (List.replicate n xs).flatten (List.replicate n us).flatten
  | 0 => .nil
  | n + 1 => by
    rw [List.replicate_succ, List.replicate_succ, List.flatten_cons, List.flatten_cons]
    exact h.append (Rps.flat h n)
theorem Rps.ints : ∀ {ns : List Int} {vs : List V}, Rps p F α vs (ns.map D.int) → vs = ns.map V.int
  | [], _, h => by cases h; rfl
  | n :: ns, _, h => by
    rw [List.map_cons] at h
    cases h with
    | cons h1 h2 =>
      cases h1
      rw [Rps.ints h2] <;> rfl
theorem Rps.strs : ∀ {ns : List Str} {vs : List V}, Rps p F α vs (ns.map D.str) → vs = ns.map V.str
  | [], _, h => by cases h; rfl
  | n :: ns, _, h => by
    rw [List.map_cons] at h
    cases h with
    | cons h1 h2 =>
      cases h1
      rw [Rps.strs h2] <;> rfl
theorem Rps.bls : ∀ {ns : List Bool} {vs : List V}, Rps p F α vs (ns.map D.bl) → vs = ns.map V.bl
  | [], _, h => by cases h; rfl
  | n :: ns, _, h => by
    rw [List.map_cons] at h
    cases h with
    | cons h1 h2 =>
      cases h1
      rw [Rps.bls h2] <;> rfl
end

/-! ### the store -/
/-- what stands at an address for an object of the store -/
def kvR {κ : Type} (p : Pc) (F : Hp) (α : List Addr) : List (κ × V) → List (κ × D) → Prop := Paired fun (x : κ × V) (y : κ × D) => x.1 = y.1 ∧ Rp p F α x.2 y.2
def OU (p : Pc) (F : Hp) (α : List Addr) : O → HO → Prop
  | .lst ds, .lst vs => Rps p F α vs ds
  | .dK kvs, .dK kws => kvR p F α kws kvs
  | .dT kvs, .dT kws => kvR p F α kws kvs
  | .ins C fs, .ins a _ gs => p.mg C = some (.ref a) ∧ kvR p F α gs fs
  | .frz o, .frz _ u => OU p F α o u
  | _, _ => False
theorem kvR.extW {κ : Type} {p : Pc} {F F' : Hp} {α α' : List Addr} (x : ExtW F α F' α') : ∀ {ks : List (κ × V)} {ls : List (κ × D)}, kvR p F α ks ls → kvR p F' α' ks ls
  | _, _, .nil => .nil
  | _, _, .cons r t => .cons ⟨r.1, Rp.extW x _ _ r.2⟩ (kvR.extW x t)
theorem OU.extW {p : Pc} {F F' : Hp} {α α' : List Addr} (x : ExtW F α F' α') : ∀ {o : O} {u : HO}, OU p F α o u → OU p F' α' o u := by
  intro o
  induction o with
  | lst ds => intro u h; cases u <;> first | exact Rps.extW x _ _ h | exact h.elim
  | dK ds => intro u h; cases u <;> first | exact kvR.extW x h | exact h.elim
  | dT ds => intro u h; cases u <;> first | exact kvR.extW x h | exact h.elim
  | ins C fs => intro u h; cases u <;> first | exact ⟨h.1, kvR.extW x h.2⟩ | exact h.elim
  | frz o ih => intro u h; cases u <;> first | exact ih h | exact h.elim
theorem kvR.ext {κ : Type} {p : Pc} {F F' : Hp} {α α' : List Addr} (x : Ext F α F' α') {ks : List (κ × V)} {ls : List (κ × D)} (h : kvR p F α ks ls) : kvR p F' α' ks ls := kvR.extW x.w h
theorem OU.ext {p : Pc} {F F' : Hp} {α α' : List Addr} (x : Ext F α F' α') {o : O} {u : HO} (h : OU p F α o u) : OU p F' α' o u := OU.extW x.w h
/-! ### tables of code objects -/
/-- no table, no code object -/
def NotT (u : HO) : Prop := (∀ ps, u ≠ .tbl ps) ∧ ∀ c q, u ≠ LamX.CodeO c q
theorem OU.notT {p : Pc} {F : Hp} {α : List Addr} : ∀ {o : O} {u : HO}, OU p F α o u → NotT u := by
  intro o u h
  refine ⟨fun ps z => ?_, fun c q z => ?_⟩
  · subst z; cases o <;> exact h.elim
  · subst z; cases o <;> exact h.elim
theorem NotT.lst (xs : List V) : NotT (.lst xs) := by
  refine ⟨fun ps z => ?_, fun c q z => ?_⟩
  · cases z
  · unfold LamX.CodeO at z; cases z
theorem NotT.frz (ob : Obj) (u : HO) : NotT (.frz ob u) := by
  refine ⟨fun ps z => ?_, fun c q z => ?_⟩
  · cases z
  · unfold LamX.CodeO at z; cases z
/-- the tables are told; nothing that stands for good is one -/
structure TbOk (p : Pc) (F H : Hp) : Prop where
  t : LamX.Tabs p.T H
  n : ∀ a o, F a = some o → ∀ ps, ung o ≠ .tbl ps
theorem TbOk.upd {p : Pc} {F F' H : Hp} (h : TbOk p F H) {q : Addr} {u : HO} (hq : ∀ w, H q = some w → NotT w) (hF : ∀ a o, F' a = some o → F a = some o ∨ ∀ ps, ung o ≠ .tbl ps) : TbOk p F' (upd H q u) := by
  refine ⟨fun t ht => ?_, fun a o e => ?_⟩
  · obtain ⟨ps, h1, h2, h3⟩ := h.t t ht
    refine ⟨ps, ?_, h2, fun pos cv hc => ?_⟩
    · have : t.1 ≠ q := fun z => by rw [z] at h1; exact (hq _ h1).1 _ rfl
      rw [upd_ne this]; exact h1
    · obtain ⟨c, e1, e2⟩ := h3 pos cv hc
      have : c ≠ q := fun z => by rw [z] at e2; exact (hq _ e2).2 _ _ rfl
      exact ⟨c, e1, by rw [upd_ne this]; exact e2⟩
  · rcases hF a o e with e | e
    · exact h.n a o e
    · exact e
theorem TbOk.new {p : Pc} {F F' H : Hp} (h : TbOk p F H) {q : Addr} {u : HO} (hq : H q = none) (hF : ∀ a o, F' a = some o → F a = some o ∨ ∀ ps, ung o ≠ .tbl ps) : TbOk p F' (L2.upd H q u) := h.upd (fun w e => by rw [hq] at e; cases e) hF
theorem TbOk.sub {p : Pc} {F F' H : Hp} (h : TbOk p F H) (hF : ∀ a o, F' a = some o → F a = some o ∨ ∀ ps, ung o ≠ .tbl ps) : TbOk p F' H := ⟨h.t, fun a o e => by
  rcases hF a o e with e | e
  · exact h.n a o e
  · exact e⟩
theorem upd_or {F : Hp} {q : Addr} {o : HO} (n : ∀ ps, ung o ≠ .tbl ps) : ∀ a v, upd F q o a = some v → F a = some v ∨ ∀ ps, ung v ≠ .tbl ps := fun a v e => by
  by_cases h : a = q
  · subst h; rw [upd_same] at e; cases e; exact .inr n
  · rw [upd_ne h] at e; exact .inl e
/-- F: what is data; α: where the store's objects stand -/
structure StOk (p : Pc) (F : Hp) (α : List Addr) (S : Sto) (H : Hp) : Prop where
  sub : ∀ a o, F a = some o → H a = some (ung o)
  own : ∀ (k : Nat) (o : O), S[k]? = some o → ∃ a u, α[k]? = some a ∧ H a = some u ∧ OU p F α o u
  out : ∀ (k : Nat) (a : Addr), α[k]? = some a → F a = none ∨ ∃ ob u, Flat u ∧ F a = some (.frz ob u)
  inj : ∀ (i j : Nat) (a : Addr), α[i]? = some a → α[j]? = some a → i = j
  len : α.length = S.length
  gd : ∀ (a : Addr) (ob ob' : Obj) (u : HO), F a = some (.frz ob (.frz ob' u)) → ∃ xs, u = .lst xs
  tb : TbOk p F H
theorem StOk.notT {p : Pc} {F : Hp} {α : List Addr} {S : Sto} {H : Hp} (s : StOk p F α S H) {k : Nat} {q : Addr} (hk : α[k]? = some q) : ∀ w, H q = some w → NotT w := fun w hw => by
  have hl : k < S.length := by rw [← s.len]; exact (List.getElem?_eq_some_iff.mp hk).1
  obtain ⟨a, u, h1, h2, h3⟩ := s.own k S[k] (by simp [hl])
  rw [hk] at h1; cases h1
  rw [hw] at h2; cases h2
  exact h3.notT
/-- the tables may grow -/
theorem StOk.extN {p : Pc} {F : Hp} {α : List Addr} {S : Sto} {H H1 : Hp} (s : StOk p F α S H) (e : LamX.ExtN H H1) (t : LamX.Tabs p.T H1) : StOk p F α S H1 := by
  refine ⟨fun a o h => e a _ (s.sub a o h) (s.tb.n a o h), fun k o h => ?_, s.out, s.inj, s.len, s.gd, ⟨t, s.tb.n⟩⟩
  obtain ⟨a, u, h1, h2, h3⟩ := s.own k o h
  exact ⟨a, u, h1, e a u h2 h3.notT.1, h3⟩
theorem StOk.there {p : Pc} {F : Hp} {α : List Addr} {S : Sto} {H : Hp} (s : StOk p F α S H) {k : Nat} {a : Addr} (h : α[k]? = some a) : ∃ u, H a = some u := by
  have hk : k < S.length := by rw [← s.len]; exact (List.getElem?_eq_some_iff.mp h).1
  obtain ⟨a', u, e, hu, _⟩ := s.own k S[k] (by simp [hk])
  rw [h] at e; cases e
  exact ⟨u, hu⟩
/-- a new tree is laid -/
theorem StOk.laid {p : Pc} {F : Hp} {α : List Addr} {S : Sto} {H : Hp} (s : StOk p F α S H) {q : Addr} (hq : H q = none) (o : HO) (fo : ung o = o := by rfl) (no : ∀ ps, o ≠ .tbl ps := by intro _ z; cases z) : StOk p (upd F q o) α S (upd H q o) ∧ Ext F α (upd F q o) α := by
  have fq : F q = none := by
    cases e : F q with
    | none => rfl
    | some u => rw [s.sub _ _ e] at hq; cases hq
  have x : Ext F α (upd F q o) α := ⟨fun a u e => by rw [upd_ne (ne_of_none e fq)]; exact e, fun _ _ h => h⟩
  have nq : ∀ {k a}, α[k]? = some a → a ≠ q := fun {k a} h z => by
    obtain ⟨u, hu⟩ := s.there h
    rw [z, hq] at hu; cases hu
  refine ⟨⟨fun a u e => ?_, fun k u e => ?_, fun k a h => ?_, s.inj, s.len, fun a ob ob' u e => ?_, s.tb.new hq (upd_or (by rw [fo]; exact no))⟩, x⟩
  rotate_left 3
  · by_cases h : a = q
    · subst h; rw [upd_same] at e; cases e; exact absurd fo (by intro z; have := congrArg sizeOf z; simp [ung] at this; omega)
    · rw [upd_ne h] at e; exact s.gd _ _ _ _ e
  · by_cases h : a = q
    · subst h; rw [upd_same] at e ⊢; cases e; rw [fo]
    · rw [upd_ne h] at e ⊢; exact s.sub _ _ e
  · obtain ⟨a, v, h1, h2, h3⟩ := s.own k u e
    exact ⟨a, v, h1, by rw [upd_ne (nq h1)]; exact h2, h3.ext x⟩
  · rw [upd_ne (nq h)]; exact s.out k a h
/-- a new object of the store is laid -/
theorem StOk.put {p : Pc} {F : Hp} {α : List Addr} {S : Sto} {H : Hp} (s : StOk p F α S H) {q : Addr} (hq : H q = none) {o : O} {u : HO} (hu : OU p F α o u) : StOk p F (α ++ [q]) (S ++ [o]) (upd H q u) ∧ Ext F α F (α ++ [q]) := by
  have x : Ext F α F (α ++ [q]) := ⟨fun _ _ h => h, fun k b h => by rw [List.getElem?_append_left (List.getElem?_eq_some_iff.mp h).1]; exact h⟩
  have nq : ∀ {k a}, α[k]? = some a → a ≠ q := fun {k a} h z => by
    obtain ⟨u, hu⟩ := s.there h
    rw [z, hq] at hu; cases hu
  have at_ : ∀ {k a}, (α ++ [q])[k]? = some a → (α[k]? = some a) ∨ (k = α.length ∧ a = q) := fun {k a} h => by
    by_cases hk : k < α.length
    · rw [List.getElem?_append_left hk] at h; exact .inl h
    · rw [List.getElem?_append_right (by omega)] at h
      have : k - α.length = 0 := by
        cases e : k - α.length with
        | zero => rfl
        | succ n => rw [e] at h; simp at h
      rw [this] at h
      exact .inr ⟨by omega, by simpa using h.symm⟩
  have fq : F q = none := by
    cases e : F q with
    | none => rfl
    | some u => rw [s.sub _ _ e] at hq; cases hq
  refine ⟨⟨fun a u e => ?_, fun k v e => ?_, fun k a h => ?_, fun i j a h1 h2 => ?_, by simp [s.len], s.gd, s.tb.new hq fun _ _ e => .inl e⟩, x⟩
  · rw [upd_ne (ne_of_none e fq)]; exact s.sub _ _ e
  · by_cases hk : k < S.length
    · rw [List.getElem?_append_left hk] at e
      obtain ⟨a, v, h1, h2, h3⟩ := s.own k v e
      exact ⟨a, v, x.a _ _ h1, by rw [upd_ne (nq h1)]; exact h2, h3.ext x⟩
    · rw [List.getElem?_append_right (by omega)] at e
      have hk0 : k - S.length = 0 := by
        cases e' : k - S.length with
        | zero => rfl
        | succ n => rw [e'] at e; simp at e
      rw [hk0] at e
      have e' : o = v := by simpa using e
      subst e'
      refine ⟨q, u, ?_, upd_same, hu.ext x⟩
      have : k = α.length := by rw [s.len]; omega
      rw [this]; simp
  · rcases at_ h with h | ⟨_, rfl⟩
    · exact s.out k a h
    · exact .inl fq
  · rcases at_ h1 with h1 | ⟨e1, r1⟩
    · rcases at_ h2 with h2 | ⟨e2, r2⟩
      · exact s.inj _ _ _ h1 h2
      · exact absurd r2 (nq h1)
    · rcases at_ h2 with h2 | ⟨e2, r2⟩
      · exact absurd r1 (nq h2)
      · rw [e1, e2]
/-- an object of the store is written -/
theorem StOk.set {p : Pc} {F : Hp} {α : List Addr} {S : Sto} {H : Hp} (s : StOk p F α S H) {k : Nat} {q : Addr} (hk : α[k]? = some q) (hF : F q = none) {o : O} {u : HO} (hu : OU p F α o u) : StOk p F α (S.set k o) (upd H q u) := by
  refine ⟨fun a v e => ?_, fun j v e => ?_, s.out, s.inj, by simp [s.len], s.gd, s.tb.upd (s.notT hk) fun _ _ e => .inl e⟩
  · have : a ≠ q := fun z => by rw [z, hF] at e; cases e
    rw [upd_ne this]; exact s.sub _ _ e
  · by_cases hj : j = k
    · subst hj
      have hlt : j < S.length := by rw [← s.len]; exact (List.getElem?_eq_some_iff.mp hk).1
      rw [List.getElem?_set_self hlt] at e
      cases e
      exact ⟨q, u, hk, upd_same, hu⟩
    · rw [List.getElem?_set_ne (Ne.symm hj)] at e
      obtain ⟨a, w, h1, h2, h3⟩ := s.own j v e
      have : a ≠ q := fun z => hj (s.inj _ _ _ (z ▸ h1) hk)
      exact ⟨a, w, h1, by rw [upd_ne this]; exact h2, h3⟩
theorem StOk.sql {p : Pc} {F : Hp} {α : List Addr} {S : Sto} {H : Hp} (s : StOk p F α S H) {K : PySem.W.Frag} {a : Addr} {xs : List V} (h : DqL K F a xs) : SqL K H a xs := h.sq fun a o e f => by rw [s.sub a o e, ung_flat f]
theorem StOk.sqt {p : Pc} {F : Hp} {α : List Addr} {S : Sto} {H : Hp} (s : StOk p F α S H) {K : PySem.W.Frag} {a : Addr} {xs : List V} (h : DqT K F a xs) : SqT K H a xs := h.sq fun a o e f => by rw [s.sub a o e, ung_flat f]
theorem StOk.free {p : Pc} {F : Hp} {α : List Addr} {S : Sto} {H : Hp} (s : StOk p F α S H) {q : Addr} (h : H q = none) : F q = none := by
  cases e : F q with
  | none => rfl
  | some u => rw [s.sub _ _ e] at h; cases h
/-- what is not being walked may be written -/
theorem StOk.loose {p : Pc} {F : Hp} {α : List Addr} {S : Sto} {H : Hp} (s : StOk p F α S H) {k : Nat} {q : Addr} {u : HO} (hk : α[k]? = some q) (hu : H q = some u) (hn : Flat u) : F q = none := by
  rcases s.out k q hk with e | ⟨ob, w, fw, e⟩
  · exact e
  · have := s.sub _ _ e
    rw [hu, ung_frz fw] at this
    exact absurd (Option.some.inj this) (hn ob w)
/-- an object of the store is locked -/
theorem StOk.lock {p : Pc} {F : Hp} {α : List Addr} {S : Sto} {H : Hp} (s : StOk p F α S H) {k : Nat} {q : Addr} (hk : α[k]? = some q) (hF : F q = none) {o : O} {u : HO} (hu : OU p F α o u) (fu : Flat u) (ob : Obj) :
    StOk p (upd F q (.frz ob u)) α (S.set k (.frz o)) (upd H q (.frz ob u)) ∧ Ext F α (upd F q (.frz ob u)) α := by
  have x : Ext F α (upd F q (.frz ob u)) α := ⟨fun a v e => by rw [upd_ne (ne_of_none e hF)]; exact e, fun _ _ h => h⟩
  refine ⟨⟨fun a v e => ?_, fun j v e => ?_, fun j a h => ?_, s.inj, by simp [s.len], fun a o1 o2 v e => ?_, s.tb.upd (s.notT hk) (upd_or (by rw [ung_frz fu]; intro _ z; cases z))⟩, x⟩
  rotate_left 3
  · by_cases h : a = q
    · subst h; rw [upd_same] at e; cases e; exact absurd rfl (fu _ _)
    · rw [upd_ne h] at e; exact s.gd _ _ _ _ e
  · by_cases h : a = q
    · subst h; rw [upd_same] at e ⊢; cases e; rw [ung_frz fu]
    · rw [upd_ne h] at e ⊢; exact s.sub _ _ e
  · by_cases hj : j = k
    · subst hj
      have hlt : j < S.length := by rw [← s.len]; exact (List.getElem?_eq_some_iff.mp hk).1
      rw [List.getElem?_set_self hlt] at e
      cases e
      exact ⟨q, .frz ob u, hk, upd_same, hu.ext x⟩
    · rw [List.getElem?_set_ne (Ne.symm hj)] at e
      obtain ⟨a, w, h1, h2, h3⟩ := s.own j v e
      have : a ≠ q := fun z => hj (s.inj _ _ _ (z ▸ h1) hk)
      exact ⟨a, w, h1, by rw [upd_ne this]; exact h2, h3.ext x⟩
  · by_cases h' : a = q
    · exact .inr ⟨ob, u, fu, by rw [h', upd_same]⟩
    · rw [upd_ne h']; exact s.out j a h
/-- .. and unlocked -/
theorem StOk.unlock {p : Pc} {F : Hp} {α : List Addr} {S : Sto} {H : Hp} (s : StOk p F α S H) {k : Nat} {q : Addr} (hk : α[k]? = some q) {ob : Obj} {u : HO} (hF : F q = some (.frz ob u)) (fu : Flat u) {o : O} (ho : S[k]? = some (.frz o)) :
    ∃ F', StOk p F' α (S.set k o) (upd H q u) ∧ ExtW F α F' α ∧ OU p F α o u ∧ ∀ F0 α0, Ext F0 α0 F α → F0 q = none → Ext F0 α0 F' α := by
  have hH := s.sub _ _ hF
  rw [ung_frz fu] at hH
  obtain ⟨a, v, h1, h2, h3⟩ := s.own k _ ho
  rw [hk] at h1; cases h1
  rw [hH] at h2; cases h2
  have h3 : OU p F α o u := h3
  have w : ExtW F α (fun b => if b = q then none else F b) α := ⟨fun a v e hn => by
    have : a ≠ q := fun z => by rw [z, hF] at e; exact hn _ _ (Option.some.inj e).symm
    show (if a = q then none else F a) = _
    rw [if_neg this]; exact e, fun _ _ h => h⟩
  refine ⟨fun b => if b = q then none else F b, ⟨fun a v e => ?_, fun j v e => ?_, fun j a h => ?_, s.inj, by simp [s.len], fun a o1 o2 v e => ?_, s.tb.upd (s.notT hk) fun a v e => .inl (by
    by_cases h : a = q
    · simp [h] at e
    · simpa only [if_neg h] using e)⟩, w, h3, fun F0 α0 x h0 => ⟨fun a v e => ?_, x.a⟩⟩
  rotate_left 3
  · by_cases h : a = q
    · simp [h] at e
    · simp only [if_neg h] at e; exact s.gd _ _ _ _ e
  rotate_left 1
  · by_cases h : a = q
    · simp [h] at e
    · simp only [if_neg h] at e
      rw [upd_ne h]; exact s.sub _ _ e
  · by_cases hj : j = k
    · subst hj
      have hlt : j < S.length := by rw [← s.len]; exact (List.getElem?_eq_some_iff.mp hk).1
      rw [List.getElem?_set_self hlt] at e
      cases e
      exact ⟨q, u, hk, upd_same, h3.extW w⟩
    · rw [List.getElem?_set_ne (Ne.symm hj)] at e
      obtain ⟨a, w', h1, h2, h3⟩ := s.own j v e
      have : a ≠ q := fun z => hj (s.inj _ _ _ (z ▸ h1) hk)
      exact ⟨a, w', h1, by rw [upd_ne this]; exact h2, h3.extW w⟩
  · by_cases h' : a = q
    · simp [h']
    · simp only [if_neg h']; exact s.out j a h
  · have : a ≠ q := fun z => by rw [z, h0] at e; cases e
    simp only [if_neg this]; exact x.f a v e
/-- what is locked is held as data -/
theorem StOk.hold {p : Pc} {F : Hp} {α : List Addr} {S : Sto} {H : Hp} (s : StOk p F α S H) {k : Nat} {q : Addr} {ob : Obj} {w : HO} (hk : α[k]? = some q) (hq : H q = some (.frz ob w)) (fw : Flat w) : ∃ F', F' q = some (.frz ob w) ∧ StOk p F' α S H ∧ Ext F α F' α := by
  rcases s.out k q hk with e | ⟨ob', w', fw', e⟩
  · have x : Ext F α (upd F q (.frz ob w)) α := ⟨fun a u h => by rw [upd_ne (ne_of_none h e)]; exact h, fun _ _ h => h⟩
    refine ⟨upd F q (.frz ob w), upd_same, ⟨fun a u h => ?_, fun k u h => ?_, fun k a h => ?_, s.inj, s.len, fun a o1 o2 v h => ?_, s.tb.sub (upd_or (by rw [ung_frz fw]; intro _ z; cases z))⟩, x⟩
    rotate_left 3
    · by_cases h' : a = q
      · subst h'; rw [upd_same] at h; cases h; exact absurd rfl (fw _ _)
      · rw [upd_ne h'] at h; exact s.gd _ _ _ _ h
    · by_cases h' : a = q
      · subst h'; rw [upd_same] at h; cases h; rw [ung_frz fw]; exact hq
      · rw [upd_ne h'] at h; exact s.sub _ _ h
    · obtain ⟨a, v, h1, h2, h3⟩ := s.own k u h
      exact ⟨a, v, h1, h2, h3.ext x⟩
    · by_cases h' : a = q
      · exact .inr ⟨ob, w, fw, by rw [h', upd_same]⟩
      · rw [upd_ne h']; exact s.out k a h
  · have := s.sub _ _ e
    rw [hq, ung_frz fw'] at this; cases this
    exact ⟨F, e, s, Ext.refl F α⟩
/-- what stands in the heap as a tuple is data -/
theorem StOk.adopt {p : Pc} {F : Hp} {α : List Addr} {S : Sto} {H : Hp} (s : StOk p F α S H) {q : Addr} {vs : List V} (hq : H q = some (.tup vs)) : ∃ F', F' q = some (.tup vs) ∧ StOk p F' α S H ∧ Ext F α F' α := by
  cases e : F q with
  | some u =>
    have := s.sub _ _ e
    rw [hq] at this
    by_cases fu : Flat u
    · rw [ung_flat fu] at this; cases this
      exact ⟨F, e, s, Ext.refl F α⟩
    · cases u with
      | frz o1 u =>
        cases u with
        | frz o2 u =>
          obtain ⟨xs, rfl⟩ := s.gd _ _ _ _ e
          cases this
        | _ => cases this
      | _ => exact absurd (fun _ _ z => nomatch z) fu
  | none =>
    have x : Ext F α (upd F q (.tup vs)) α := ⟨fun a u h => by rw [upd_ne (ne_of_none h e)]; exact h, fun _ _ h => h⟩
    refine ⟨upd F q (.tup vs), upd_same, ⟨fun a u h => ?_, fun k u h => ?_, fun k a h => ?_, s.inj, s.len, fun a o1 o2 v h => ?_, s.tb.sub (upd_or (by intro _ z; cases z))⟩, x⟩
    rotate_left 3
    · by_cases h' : a = q
      · subst h'; rw [upd_same] at h; cases h
      · rw [upd_ne h'] at h; exact s.gd _ _ _ _ h
    · by_cases h' : a = q
      · subst h'; rw [upd_same] at h; cases h; exact hq
      · rw [upd_ne h'] at h; exact s.sub _ _ h
    · obtain ⟨a, v, h1, h2, h3⟩ := s.own k u h
      exact ⟨a, v, h1, h2, h3.ext x⟩
    · have : a ≠ q := fun z => by
        have hk : k < S.length := by rw [← s.len]; exact (List.getElem?_eq_some_iff.mp h).1
        obtain ⟨o, ho⟩ : ∃ o, S[k]? = some o := ⟨S[k], by simp [hk]⟩
        obtain ⟨a', v, h1, h2, h3⟩ := s.own k o ho
        rw [h] at h1; cases h1
        rw [z, hq] at h2; cases h2
        cases o <;> exact h3.elim
      rw [upd_ne this]; exact s.out k a h
/-- a code object, too -/
theorem StOk.adoptC {p : Pc} {F : Hp} {α : List Addr} {S : Sto} {H : Hp} (s : StOk p F α S H) {q : Addr} {c : Addr} {n : Str} (hq : H q = some (LamX.CodeO c n)) : ∃ F', F' q = some (LamX.CodeO c n) ∧ StOk p F' α S H ∧ Ext F α F' α := by
  cases e : F q with
  | some u =>
    have := s.sub _ _ e
    rw [hq] at this
    by_cases fu : Flat u
    · rw [ung_flat fu] at this; cases this
      exact ⟨F, e, s, Ext.refl F α⟩
    · cases u with
      | frz o1 u =>
        cases u with
        | frz o2 u =>
          obtain ⟨xs, rfl⟩ := s.gd _ _ _ _ e
          unfold LamX.CodeO at this; cases this
        | _ => unfold LamX.CodeO at this; cases this
      | _ => exact absurd (fun _ _ z => nomatch z) fu
  | none =>
    have x : Ext F α (upd F q (LamX.CodeO c n)) α := ⟨fun a u h => by rw [upd_ne (ne_of_none h e)]; exact h, fun _ _ h => h⟩
    refine ⟨upd F q (LamX.CodeO c n), upd_same, ⟨fun a u h => ?_, fun k u h => ?_, fun k a h => ?_, s.inj, s.len, fun a o1 o2 v h => ?_, s.tb.sub (upd_or (by intro _ z; unfold LamX.CodeO at z; cases z))⟩, x⟩
    rotate_left 3
    · by_cases h' : a = q
      · subst h'; rw [upd_same] at h; unfold LamX.CodeO at h; cases h
      · rw [upd_ne h'] at h; exact s.gd _ _ _ _ h
    · by_cases h' : a = q
      · subst h'; rw [upd_same] at h; cases h; exact hq
      · rw [upd_ne h'] at h; exact s.sub _ _ h
    · obtain ⟨a, v, h1, h2, h3⟩ := s.own k u h
      exact ⟨a, v, h1, h2, h3.ext x⟩
    · have : a ≠ q := fun z => by
        have hk : k < S.length := by rw [← s.len]; exact (List.getElem?_eq_some_iff.mp h).1
        obtain ⟨o, ho⟩ : ∃ o, S[k]? = some o := ⟨S[k], by simp [hk]⟩
        obtain ⟨a', v, h1, h2, h3⟩ := s.own k o ho
        rw [h] at h1; cases h1
        rw [z, hq] at h2; cases h2
        exact h3.notT.2 _ _ rfl
      rw [upd_ne this]; exact s.out k a h
end GB
/-! The judgements: an expression, a test, arguments, a statement compute what a function of the names' values and of the store says. -/
namespace GB
open PySem L2

/-- the names' values stand for data -/
structure EnvOk (p : Pc) (F : Hp) (α : List Addr) (σ : L2.St) (ρ : Env) : Prop where
  at_ : ∀ (i : Nat) (d : D), ρ[i]? = some (some d) → ∃ v, σ[i]? = some (some v) ∧ Rp p F α v d
  len : ρ.length = σ.length
/-- an exception's class and its own dict -/
def ExR (p : Pc) (F : Hp) (α : List Addr) (x : Exn) (cls : Value) (dd : Option Addr) : Prop :=
  ∃ C, p.mg x.cls = some (.ref C) ∧ cls = .ref C ∧ ((x.fs = [] ∧ dd = none) ∨ ∃ d vs, dd = some d ∧ F d = some (.xd vs) ∧ kvR p F α vs x.fs)
/-- an end is what is wanted -/
def Sat (p : Pc) (F : Hp) (α : List Addr) (r : R D) (Q : VK) (E : XK) : Prop := match r with
  | .ok d S => ∀ v H' F' α', Ext F α F' α' → StOk p F' α' S H' → Rp p F' α' v d → Q v H'
  | .ex x S => ∀ cls dd H' F' α', Ext F α F' α' → StOk p F' α' S H' → ExR p F' α' x cls dd → E cls dd H'
  | .no => False
theorem Sat.ext {p : Pc} {F F' : Hp} {α α' : List Addr} {r : R D} {Q : VK} {E : XK} (x : Ext F α F' α') (h : Sat p F α r Q E) : Sat p F' α' r Q E := by
  cases r with
  | ok d S => exact fun v H' F' α' e s r => h v H' F' α' (x.trans e) s r
  | ex e S => exact fun cls dd H' F' α' e s r => h cls dd H' F' α' (x.trans e) s r
  | no => exact h
theorem Sat.imp {p : Pc} {F : Hp} {α : List Addr} {r : R D} {Q Q' : VK} {E E' : XK} (h : Sat p F α r Q E) (hQ : ∀ v H, Q v H → Q' v H) (hE : ∀ c d H, E c d H → E' c d H) : Sat p F α r Q' E' := by
  cases r with
  | ok d S => exact fun v H' F' α' e s r => hQ _ _ (h v H' F' α' e s r)
  | ex e S => exact fun cls dd H' F' α' e s r => hE _ _ _ (h cls dd H' F' α' e s r)
  | no => exact h
/-- .. first the one, then what follows -/
theorem Sat.bind {p : Pc} {F : Hp} {α : List Addr} {r : R D} {k : D → Sto → R D} {Q : VK} {E : XK} (h : Sat p F α (r.bind k) Q E) :
    Sat p F α r (fun v H' => ∃ F' α' S' d, Ext F α F' α' ∧ StOk p F' α' S' H' ∧ Rp p F' α' v d ∧ Sat p F' α' (k d S') Q E) E := by
  cases r with
  | ok d S => exact fun v H' F' α' e s r => ⟨F', α', S, d, e, s, r, Sat.ext e h⟩
  | ex e S => exact h
  | no => exact h
theorem EnvOk.ext {p : Pc} {F F' : Hp} {α α' : List Addr} {σ : L2.St} {ρ : Env} (x : Ext F α F' α') (h : EnvOk p F α σ ρ) : EnvOk p F' α' σ ρ :=
  ⟨fun i d e => let ⟨v, h1, h2⟩ := h.at_ i d e; ⟨v, h1, Rp.ext x _ _ h2⟩, h.len⟩
theorem EnvOk.set {p : Pc} {F : Hp} {α : List Addr} {σ : L2.St} {ρ : Env} (h : EnvOk p F α σ ρ) {i : Nat} {v : V} {d : D} (r : Rp p F α v d) : EnvOk p F α (σ.set i (some v)) (ρ.set i (some d)) := by
  refine ⟨fun j e hj => ?_, by simp [h.len]⟩
  by_cases hi : j = i
  · subst hi
    have hlt : j < ρ.length := by
      have := (List.getElem?_eq_some_iff.mp hj).1
      simpa using this
    rw [List.getElem?_set_self hlt] at hj
    cases hj
    exact ⟨v, by rw [List.getElem?_set_self (by rw [← h.len]; exact hlt)], r⟩
  · rw [List.getElem?_set_ne (Ne.symm hi)] at hj
    rw [List.getElem?_set_ne (Ne.symm hi)]
    exact h.at_ j e hj
theorem EnvOk.unset {p : Pc} {F : Hp} {α : List Addr} {σ : L2.St} {ρ : Env} (h : EnvOk p F α σ ρ) (i : Nat) : EnvOk p F α (σ.set i none) (ρ.set i none) := by
  refine ⟨fun j e hj => ?_, by simp [h.len]⟩
  by_cases hi : j = i
  · subst hi
    have hlt : j < ρ.length := by
      have := (List.getElem?_eq_some_iff.mp hj).1
      simpa using this
    rw [List.getElem?_set_self hlt] at hj
    cases hj
  · rw [List.getElem?_set_ne (Ne.symm hi)] at hj
    rw [List.getElem?_set_ne (Ne.symm hi)]
    exact h.at_ j e hj

/-- the readings -/
def LE (p : Pc) (W : WX) (f : Sem) : TE := fun σ H Q => ∃ F α S ρ, StOk p F α S H ∧ EnvOk p F α σ ρ ∧ Sat p F α (f ρ S) Q fun c d H' => W c d σ H'
/-- of a test: the value is a bool -/
def LT (p : Pc) (W : WX) (f : Sem) : TT := fun σ H Q => LE p W f σ H fun v H' => ∃ b, v = .bl b ∧ Q b H'
/-- of arguments: data in a row -/
abbrev SemA := Env → Sto → R (List D)
def SatA (p : Pc) (F : Hp) (α : List Addr) (r : R (List D)) (Q : List V → Hp → Prop) (E : XK) : Prop := match r with
  | .ok d S => ∀ v H' F' α', Ext F α F' α' → StOk p F' α' S H' → Rps p F' α' v d → Q v H'
  | .ex x S => ∀ cls dd H' F' α', Ext F α F' α' → StOk p F' α' S H' → ExR p F' α' x cls dd → E cls dd H'
  | .no => False
theorem SatA.ext {p : Pc} {F F' : Hp} {α α' : List Addr} {r : R (List D)} {Q : List V → Hp → Prop} {E : XK} (x : Ext F α F' α') (h : SatA p F α r Q E) : SatA p F' α' r Q E := by
  cases r with
  | ok d S => exact fun v H' F' α' e s r => h v H' F' α' (x.trans e) s r
  | ex e S => exact fun cls dd H' F' α' e s r => h cls dd H' F' α' (x.trans e) s r
  | no => exact h
theorem SatA.imp {p : Pc} {F : Hp} {α : List Addr} {r : R (List D)} {Q Q' : List V → Hp → Prop} {E E' : XK} (h : SatA p F α r Q E) (hQ : ∀ v H, Q v H → Q' v H) (hE : ∀ c d H, E c d H → E' c d H) : SatA p F α r Q' E' := by
  cases r with
  | ok d S => exact fun v H' F' α' e s r => hQ _ _ (h v H' F' α' e s r)
  | ex e S => exact fun cls dd H' F' α' e s r => hE _ _ _ (h cls dd H' F' α' e s r)
  | no => exact h
theorem Sat.bindA {p : Pc} {F : Hp} {α : List Addr} {r : R (List D)} {k : List D → Sto → R D} {Q : VK} {E : XK} (h : Sat p F α (r.bind k) Q E) :
    SatA p F α r (fun v H' => ∃ F' α' S' d, Ext F α F' α' ∧ StOk p F' α' S' H' ∧ Rps p F' α' v d ∧ Sat p F' α' (k d S') Q E) E := by
  cases r with
  | ok d S => exact fun v H' F' α' e s r => ⟨F', α', S, d, e, s, r, Sat.ext e h⟩
  | ex e S => exact h
  | no => exact h
def LA (p : Pc) (W : WX) (f : SemA) : TA := fun σ H Q => ∃ F α S ρ, StOk p F α S H ∧ EnvOk p F α σ ρ ∧ SatA p F α (f ρ S) Q fun c d H' => W c d σ H'
/-- a statement's end -/
def SatS (p : Pc) (W : WX) (F : Hp) (α : List Addr) (r : SR) (Q : Ends) : Prop := match r with
  | .nx ρ S => ∀ σ H' F' α', Ext F α F' α' → StOk p F' α' S H' → EnvOk p F' α' σ ρ → Q.nx σ H'
  | .bk ρ S => ∀ σ H' F' α', Ext F α F' α' → StOk p F' α' S H' → EnvOk p F' α' σ ρ → Q.bk σ H'
  | .ct ρ S => ∀ σ H' F' α', Ext F α F' α' → StOk p F' α' S H' → EnvOk p F' α' σ ρ → Q.ct σ H'
  | .rt d S => ∀ v H' F' α', Ext F α F' α' → StOk p F' α' S H' → Rp p F' α' v d → Q.rt v H'
  | .ex x ρ S => ∀ σ cls dd H' F' α', Ext F α F' α' → StOk p F' α' S H' → EnvOk p F' α' σ ρ → ExR p F' α' x cls dd → W cls dd σ H'
  | .no => False
theorem SatS.ext {p : Pc} {W : WX} {F F' : Hp} {α α' : List Addr} {r : SR} {Q : Ends} (x : Ext F α F' α') (h : SatS p W F α r Q) : SatS p W F' α' r Q := by
  cases r with
  | nx d S => exact fun v H' F' α' e s r => h v H' F' α' (x.trans e) s r
  | bk d S => exact fun v H' F' α' e s r => h v H' F' α' (x.trans e) s r
  | ct d S => exact fun v H' F' α' e s r => h v H' F' α' (x.trans e) s r
  | rt d S => exact fun v H' F' α' e s r => h v H' F' α' (x.trans e) s r
  | ex e ρ S => exact fun σ cls dd H' F' α' e s r q => h σ cls dd H' F' α' (x.trans e) s r q
  | no => exact h
def LS (p : Pc) (W : WX) (f : SemS) : TS := fun Q σ H => ∃ F α S ρ, StOk p F α S H ∧ EnvOk p F α σ ρ ∧ SatS p W F α (f ρ S) Q

/-- a scope; own: whether its code object's table is told -/
structure Sco extends Scope where
  own : Bool
/-- the scope of a def of the text -/
abbrev ds (st : Stmt) : Sco := ⟨defScope st, true⟩
/-- the code object c, its table P: what is made of the text of an own block bears that name -/
structure CodeF (p : Pc) (cd : Value) (qual : Str) : Prop where
  ex : ∃ c P, cd = .ref c ∧ LamX.TabB p.base p.mg c P ∧ (P, qual ++ "<lambda>") ∈ p.T ∧ ∀ t ∈ p.T, t.1 = P → t.2 = qual ++ "<lambda>"
/-- what a body's context gives: the text, the names by slot, the calls' room, the scope that runs, the wish about exceptions -/
structure COk (p : Pc) (N : List Str) (k : Nat) (sc : Sco) (W : WX) (X : Cx) : Prop where
  prog : X.prog = p.P
  w : X.w = p.w
  K : X.K = p.K
  mg : X.mg = p.mg
  base : X.base = p.base
  calm : X.calm = true
  hN : X.N = N
  nd : N.Nodup
  hsc : X.env.scope = sc.toScope
  room : Room k X.A
  tk : Takes X W
  cd : sc.own = true → CodeF p X.env.code X.env.qual
def JE (p : Pc) (N : List Str) (k : Nat) (sc : Sco) (e : Expr) (f : Sem) : Prop := ∀ W X, COk p N k sc W X → PE X e (LE p W f)
def JT (p : Pc) (N : List Str) (k : Nat) (sc : Sco) (e : Expr) (f : Sem) : Prop := ∀ W X, COk p N k sc W X → PT X e (LT p W f)
def JA (p : Pc) (N : List Str) (k : Nat) (sc : Sco) (es : List Expr) (f : SemA) : Prop := ∀ W X, COk p N k sc W X → PA X es (LA p W f)
/-- .. of a def's body, where statements stand -/
structure SOk (p : Pc) (N : List Str) (k : Nat) (sc : Sco) (W : WX) (X : Cx) : Prop where
  c : COk p N k sc W X
  pas : PassesOwn (model X.prog X.w) X.A X.env X.xe
  fn : ∀ x, X.fn x = true
  hs : X.stack = X.env :: X.outer
  hf : X.env.frame = some X.env.locals
  ex : X.ex = []
def JS (p : Pc) (N : List Str) (k : Nat) (sc : Sco) (st : Stmt) (f : SemS) : Prop := ∀ W X, SOk p N k sc W X → PS X st (LS p W f)
def JSs (p : Pc) (N : List Str) (k : Nat) (sc : Sco) (st : List Stmt) (f : SemS) : Prop := ∀ W X, SOk p N k sc W X → PSs X st (LS p W f)

theorem PE.imp {X : Cx} {e : Expr} {t t' : TE} (h : PE X e t) (i : ∀ σ H Q, t' σ H Q → t σ H Q) : PE X e t' := ⟨fun pins s σ H Q I hq => h.run pins s σ H Q I (i σ H Q hq)⟩
theorem PT.imp {X : Cx} {e : Expr} {t t' : TT} (h : PT X e t) (i : ∀ σ H Q, t' σ H Q → t σ H Q) : PT X e t' := ⟨fun pins s σ H Q I hq => h.run pins s σ H Q I (i σ H Q hq)⟩
theorem PA.imp {X : Cx} {e : List Expr} {t t' : TA} (h : PA X e t) (i : ∀ σ H Q, t' σ H Q → t σ H Q) : PA X e t' := ⟨fun pos pins s σ H Q I hq => h.run pos pins s σ H Q I (i σ H Q hq)⟩
theorem PS.imp {X : Cx} {e : Stmt} {t t' : TS} (h : PS X e t) (i : ∀ D σ H, t' D σ H → t D σ H) : PS X e t' := ⟨fun pins s σ H D I hq => h.run pins s σ H D I (i D σ H hq)⟩
theorem PSs.imp {X : Cx} {e : List Stmt} {t t' : TS} (h : PSs X e t) (i : ∀ D σ H, t' D σ H → t D σ H) : PSs X e t' := ⟨fun pins s σ H D I hq => h.run pins s σ H D I (i D σ H hq)⟩

/-! ### two and three in a row -/
def sem2 (op : D → D → Sto → R D) (f g : Sem) : Sem := fun ρ S => (f ρ S).bind fun x S1 => (g ρ S1).bind fun y S2 => op x y S2
def sem1 (op : D → Sto → R D) (f : Sem) : Sem := fun ρ S => (f ρ S).bind fun x S1 => op x S1
/-- an operation over data does what the rule r asks -/
def OpG (p : Pc) (op : D → D → Sto → R D) (r : R2) : Prop := ∀ (F : Hp) (α : List Addr) (S : Sto) (H : Hp) (v w : V) (d e : D) (Q : VK) (E : XK),
  StOk p F α S H → Rp p F α v d → Rp p F α w e → Sat p F α (op d e S) Q E → r v w H Q
def UnG (p : Pc) (op : D → Sto → R D) (r : V → Hp → VK → Prop) : Prop := ∀ (F : Hp) (α : List Addr) (S : Sto) (H : Hp) (v : V) (d : D) (Q : VK) (E : XK),
  StOk p F α S H → Rp p F α v d → Sat p F α (op d S) Q E → r v H Q
section
variable {p : Pc} {W : WX} {σ : L2.St} {H : Hp} {Q : VK} {f g : Sem}
theorem LE.one {k : D → Sto → R D} (h : LE p W (sem1 k f) σ H Q) : LE p W f σ H fun v H1 => ∃ F α S d, StOk p F α S H1 ∧ Rp p F α v d ∧ Sat p F α (k d S) Q fun c d H' => W c d σ H' := by
  obtain ⟨F, α, S, ρ, s, e, q⟩ := h
  exact ⟨F, α, S, ρ, s, e, (Sat.bind q).imp (fun v H1 ⟨F1, α1, S1, d, x, s1, r1, q1⟩ => ⟨F1, α1, S1, d, s1, r1, q1⟩) fun _ _ _ z => z⟩
theorem LE.two {op : D → D → Sto → R D} (h : LE p W (sem2 op f g) σ H Q) : LE p W f σ H fun v H1 => LE p W g σ H1 fun w H2 => ∃ F α S d e, StOk p F α S H2 ∧ Rp p F α v d ∧ Rp p F α w e ∧ Sat p F α (op d e S) Q fun c d H' => W c d σ H' := by
  obtain ⟨F, α, S, ρ, s, e, q⟩ := h
  exact ⟨F, α, S, ρ, s, e, (Sat.bind q).imp (fun v H1 ⟨F1, α1, S1, d, x, s1, r1, q1⟩ => ⟨F1, α1, S1, ρ, s1, e.ext x, (Sat.bind q1).imp (fun w H2 ⟨F2, α2, S2, d2, x2, s2, r2, q2⟩ =>
    ⟨F2, α2, S2, d, d2, s2, Rp.ext x2 _ _ r1, r2, q2⟩) fun _ _ _ z => z⟩) fun _ _ _ z => z⟩
theorem LE.args {fa : SemA} {k : List D → Sto → R D} (h : LE p W (fun ρ S => (fa ρ S).bind k) σ H Q) : LA p W fa σ H fun vs H1 => ∃ F α S ds, StOk p F α S H1 ∧ Rps p F α vs ds ∧ Sat p F α (k ds S) Q fun c d H' => W c d σ H' := by
  obtain ⟨F, α, S, ρ, s, e, q⟩ := h
  exact ⟨F, α, S, ρ, s, e, (Sat.bindA q).imp (fun v H1 ⟨F1, α1, S1, d, x, s1, r1, q1⟩ => ⟨F1, α1, S1, d, s1, r1, q1⟩) fun _ _ _ z => z⟩
/-- an end that is known: a value that stands for the data at any state further on -/
theorem Sat.ret {F : Hp} {α : List Addr} {S : Sto} {d : D} {Q : VK} {E : XK} (h : Sat p F α (.ok d S) Q E) {v : V} {H' F' : Hp} {α' : List Addr} (x : Ext F α F' α') (s : StOk p F' α' S H') (r : Rp p F' α' v d) : Q v H' := h v H' F' α' x s r
theorem Sat.here {F : Hp} {α : List Addr} {S : Sto} {H : Hp} {d : D} {Q : VK} {E : XK} (h : Sat p F α (.ok d S) Q E) {v : V} (s : StOk p F α S H) (r : Rp p F α v d) : Q v H := h v H F α (Ext.refl F α) s r
/-- a new tree -/
theorem Sat.tup {F : Hp} {α : List Addr} {S : Sto} {H : Hp} {ds : List D} {vs : List V} {Q : VK} {E : XK} (h : Sat p F α (.ok (.tup ds) S) Q E) (s : StOk p F α S H) (r : Rps p F α vs ds) : ∀ q, H q = none → Q (.ref q) (upd H q (.tup vs)) := fun q hq => by
  obtain ⟨s', x⟩ := s.laid hq (.tup vs)
  exact h _ _ _ _ x s' (.tup upd_same (Rps.ext x _ _ r))
theorem Sat.lst {F : Hp} {α : List Addr} {S : Sto} {H : Hp} {ds : List D} {vs : List V} {Q : VK} {E : XK} (h : Sat p F α (.ok (.lst ds) S) Q E) (s : StOk p F α S H) (r : Rps p F α vs ds) : ∀ q, H q = none → Q (.ref q) (upd H q (.lst vs)) := fun q hq => by
  obtain ⟨s', x⟩ := s.laid hq (.lst vs)
  exact h _ _ _ _ x s' (.lst (.inl upd_same) (Rps.ext x _ _ r))
/-- a new object of the store -/
theorem Sat.own {F : Hp} {α : List Addr} {S : Sto} {H : Hp} {o : O} {u : HO} {Q : VK} {E : XK} (h : Sat p F α (.ok (.own S.length) (S ++ [o])) Q E) (s : StOk p F α S H) (r : OU p F α o u) : ∀ q, H q = none → Q (.ref q) (upd H q u) := fun q hq => by
  obtain ⟨s', x⟩ := s.put hq r
  refine h _ _ _ _ x s' (.own ?_)
  rw [← s.len]
  simp
end
/-! ### leaves, operators, comparisons -/
section
variable {p : Pc} {N : List Str} {k : Nat} {sc : Sco} {a b c : Expr} {f g h : Sem} {pos : Pos}
def semVar (i : Nat) : Sem := fun ρ S => match ρ[i]? with
  | some (some d) => .ok d S
  | _ => .no
def semC (d : D) : Sem := fun _ S => .ok d S
theorem je_var (i : Nat) {x : Str} (hN : N[i]? = some x := by rfl) (hv : (sc.names.lookup x = some .local ∨ sc.names.lookup x = some .cell ∨ sc.names.lookup x = some .free) := by first | exact Or.inl rfl | exact Or.inr (Or.inl rfl) | exact Or.inr (Or.inr rfl))
    (hd : (x == ("__debug__" : Str)) = false := by decide) (hcd : (x == ("__classdict__" : Str)) = false := by decide) : JE p N k sc (.Name x pos) (semVar i) := fun W X c => by
  refine PE.imp (pe_var (X := X) (i := i) (by rw [c.hN]; exact hN) (by rw [c.hsc]; exact hv) hd hcd) fun σ H Q h => ?_
  obtain ⟨F, α, S, ρ, s, e, q⟩ := h
  unfold semVar at q
  cases hr : ρ[i]? with
  | none => rw [hr] at q; exact q.elim
  | some o =>
    cases o with
    | none => rw [hr] at q; exact q.elim
    | some d =>
      rw [hr] at q
      obtain ⟨v, h1, h2⟩ := e.at_ i d hr
      exact ⟨v, h1, q.here s h2⟩
theorem LE.const {p : Pc} {W : WX} {σ : L2.St} {H : Hp} {Q : VK} {v : V} {d : D} (r : ∀ F α, Rp p F α v d) (h : LE p W (semC d) σ H Q) : Q v H := by
  obtain ⟨F, α, S, ρ, s, e, q⟩ := h
  exact Sat.here q s (r F α)
theorem je_int {i : Int} {j : Nat} : JE p N k sc (.Constant (.int i) j pos) (semC (.int i)) := fun W X c => PE.imp pe_int fun σ H Q h => h.const fun _ _ => .int i
theorem je_bl {i : Bool} {j : Nat} : JE p N k sc (.Constant (.bool i) j pos) (semC (.bl i)) := fun W X c => PE.imp pe_bl fun σ H Q h => h.const fun _ _ => .bl i
theorem je_non {j : Nat} : JE p N k sc (.Constant .none j pos) (semC .non) := fun W X c => PE.imp pe_non fun σ H Q h => h.const fun _ _ => .non
theorem je_str {i : Str} {j : Nat} : JE p N k sc (.Constant (.str i) j pos) (semC (.str i)) := fun W X c => PE.imp pe_str fun σ H Q h => h.const fun _ _ => .str i
/-- a name of the module: a constant -/
structure GC (p : Pc) (x : Str) (d : D) : Prop where
  ex : ∃ u v, p.mg x = some u ∧ RelV v u ∧ ∀ F α, Rp p F α v d
theorem je_glob {x : Str} {d : D} (G : GC p x d) (hg : sc.names.lookup x = some .globalImplicit := by rfl) (hd : (x == ("__debug__" : Str)) = false := by decide) : JE p N k sc (.Name x pos) (semC d) := fun W X c => by
  obtain ⟨u, v, h1, h2, h3⟩ := G.ex
  exact PE.imp (pe_glob (X := X) (by show X.env.scope.names.lookup x = _; rw [c.hsc]; exact hg) (by rw [c.mg]; exact h1) h2 hd) fun σ H Q h => h.const h3
/-- a built-in type as a value -/
theorem je_ty {x : Str} {n : BT} (hm : p.mg x = none) (hv : bootBuiltins x = some (.type n.name)) (hg : sc.names.lookup x = some .globalImplicit := by rfl) (hn : x ≠ "__name__" := by decide) (hd : (x == ("__debug__" : Str)) = false := by decide) : JE p N k sc (.Name x pos) (semC (.ty n)) := fun W X c => by
  exact PE.imp (pe_bltn (X := X) (v := .ty n.name) (u := .type n.name) (by show X.env.scope.names.lookup x = _; rw [c.hsc]; exact hg) (by rw [c.mg]; exact hm) hv rfl hn hd) fun σ H Q h => h.const fun _ _ => .ty n
theorem je_op {o : Operator} {op : D → D → Sto → R D} {r : Cx → R2} (ho : ∀ W X, COk p N k sc W X → OpR X (binaryOp o) (r X)) (hr : ∀ W X, COk p N k sc W X → OpG p op (r X)) (ha : JE p N k sc a f) (hb : JE p N k sc b g) : JE p N k sc (.BinOp a o b pos) (sem2 op f g) := fun W X c => by
  refine PE.imp (pe_op (ho W X c) (ha W X c) (hb W X c)) fun σ H Q h => ?_
  obtain ⟨F, α, S, ρ, s, e, q⟩ := LE.two h
  exact ⟨F, α, S, ρ, s, e, q.imp (fun v H1 h1 => by
    obtain ⟨F, α, S, ρ, s, e, q⟩ := h1
    exact ⟨F, α, S, ρ, s, e, q.imp (fun w H2 ⟨F, α, S, d, e, s, r1, r2, q⟩ => hr W X c F α S H2 v w d e Q _ s r1 r2 q) fun _ _ _ z => z⟩) fun _ _ _ z => z⟩
theorem je_un {o : UnaryOp} {op : D → Sto → R D} {r : Cx → V → Hp → VK → Prop} (ho : ∀ W X, COk p N k sc W X → UnR X (unaryOp o) (r X)) (hr : ∀ W X, COk p N k sc W X → UnG p op (r X)) (ha : JE p N k sc a f) : JE p N k sc (.UnaryOp o a pos) (sem1 op f) := fun W X c => by
  refine PE.imp (pe_un (ho W X c) (ha W X c)) fun σ H Q h => ?_
  obtain ⟨F, α, S, ρ, s, e, q⟩ := LE.one h
  exact ⟨F, α, S, ρ, s, e, q.imp (fun v H1 ⟨F, α, S, d, s, r1, q⟩ => hr W X c F α S H1 v d Q _ s r1 q) fun _ _ _ z => z⟩
theorem je_cmp {o : CmpOp} {op : D → D → Sto → R D} {r : Cx → R2} (ho : ∀ W X, COk p N k sc W X → OpR X (compareOp o) (r X)) (hr : ∀ W X, COk p N k sc W X → OpG p op (r X)) (ha : JE p N k sc a f) (hb : JE p N k sc b g) (hm : behindInMarks o b = false) : JE p N k sc (.Compare a [o] [b] pos) (sem2 op f g) := fun W X c => by
  refine PE.imp (pe_cmpR (ho W X c) (ha W X c) (hb W X c) hm) fun σ H Q h => ?_
  obtain ⟨F, α, S, ρ, s, e, q⟩ := LE.two h
  exact ⟨F, α, S, ρ, s, e, q.imp (fun v H1 h1 => by
    obtain ⟨F, α, S, ρ, s, e, q⟩ := h1
    exact ⟨F, α, S, ρ, s, e, q.imp (fun w H2 ⟨F, α, S, d, e, s, r1, r2, q⟩ => hr W X c F α S H2 v w d e Q _ s r1 r2 q) fun _ _ _ z => z⟩) fun _ _ _ z => z⟩
end
end GB
/-! Operators over data: what each does, and that the rule of the layer gives it. -/
namespace GB
open PySem L2

/-! ### data as the library's own data -/
mutual
def toP : D → Option PyData
  | .non => some .none | .bl b => some (.bool b) | .int i => some (.int i) | .str s => some (.str s)
  | .tup xs => (toPs xs).map .tuple
  | .lst xs => (toPs xs).map .list
  | .own _ => none | .ty _ => none | .gl _ => none
def toPs : List D → Option (List PyData)
  | [] => some []
  | d :: ds => match toP d, toPs ds with
    | some x, some xs => some (x :: xs)
    | _, _ => none
end
/-- the items of a list: a tree, or an object of the store -/
def lstOf (S : Sto) : D → Option (List D)
  | .lst xs => some xs
  | .own k => match S[k]? with
    | some (.lst xs) => some xs
    | some (.frz (.lst xs)) => some xs
    | _ => none
  | _ => none
/-- .. or of a tuple -/
def seqOf (S : Sto) : D → Option (List D)
  | .tup xs => some xs
  | d => lstOf S d
def toPS (S : Sto) : D → Option PyData
  | .own k => (lstOf S (.own k)).bind fun xs => (toPs xs).map .list
  | d => toP d
section
variable {p : Pc} {F : Hp} {α : List Addr} {S : Sto} {H : Hp}
mutual
theorem Rp.dp (s : StOk p F α S H) : ∀ (d : D) (v : V) (q : PyData), Rp p F α v d → toP d = some q → Dp p.K H v q
  | .non, _, _, h, e => by cases h; simp [toP] at e; subst e; exact .non
  | .bl b, _, _, h, e => by cases h; simp [toP] at e; subst e; exact .bl b
  | .int i, _, _, h, e => by cases h; simp [toP] at e; subst e; exact .int i
  | .str i, _, _, h, e => by cases h; simp [toP] at e; subst e; exact .str i
  | .tup ds, _, _, h, e => by
    cases h with
    | tup h1 h2 =>
      rw [toP] at e
      cases e2 : toPs ds with
      | none => rw [e2] at e; cases e
      | some qs => rw [e2] at e; cases e; exact .tup (s.sqt h1) (Rps.dp s ds _ qs h2 e2)
  | .lst ds, _, _, h, e => by
    cases h with
    | lst h1 h2 =>
      rw [toP] at e
      cases e2 : toPs ds with
      | none => rw [e2] at e; cases e
      | some qs => rw [e2] at e; cases e; exact .lst (s.sql h1) (Rps.dp s ds _ qs h2 e2)
  | .own k, _, _, h, e => by rw [toP] at e; cases e
  | .ty n, _, _, h, e => by rw [toP] at e; cases e
  | .gl n, _, _, h, e => by rw [toP] at e; cases e
theorem Rps.dp (s : StOk p F α S H) : ∀ (ds : List D) (vs : List V) (qs : List PyData), Rps p F α vs ds → toPs ds = some qs → DpAll p.K H vs qs
  | [], _, _, h, e => by cases h; rw [toPs] at e; cases e; exact .nil
  | d :: ds, _, _, h, e => by
    cases h with
    | cons h1 h2 =>
      rw [toPs] at e
      cases e1 : toP d with
      | none => rw [e1] at e; simp at e
      | some x =>
        cases e2 : toPs ds with
        | none => rw [e1, e2] at e; simp at e
        | some xs => rw [e1, e2] at e; simp at e; subst e; exact .cons (Rp.dp s d _ x h1 e1) (Rps.dp s ds _ xs h2 e2)
end
theorem StOk.lstOf (s : StOk p F α S H) {d : D} {v : V} {xs : List D} (r : Rp p F α v d) (e : lstOf S d = some xs) : ∃ a vs, v = .ref a ∧ SqL p.K H a vs ∧ Rps p F α vs xs := by
  cases d with
  | lst ys =>
    have e' : ys = xs := Option.some.inj e
    subst e'
    cases r with
    | lst h1 h2 => exact ⟨_, _, rfl, s.sql h1, h2⟩
  | own k =>
    cases r with
    | own h1 =>
      unfold GB.lstOf at e
      dsimp only at e
      cases q : S[k]? with
      | none => rw [q] at e; cases e
      | some o =>
        rw [q] at e
        obtain ⟨a, u, h2, h3, h4⟩ := s.own k o q
        rw [h1] at h2; cases h2
        cases o with
        | lst ys =>
          have e' : ys = xs := Option.some.inj e
          subst e'
          cases u with
          | lst vs => exact ⟨_, vs, rfl, .inl (.inl h3), h4⟩
          | _ => exact (show False from h4).elim
        | frz o =>
          cases o with
          | lst ys =>
            have e' : ys = xs := Option.some.inj e
            subst e'
            cases u with
            | frz ob u =>
              cases u with
              | lst vs => exact ⟨_, vs, rfl, .inl (.inr ⟨ob, h3⟩), h4⟩
              | _ => exact (show False from h4).elim
            | _ => exact (show False from h4).elim
          | _ => cases e
        | _ => cases e
  | _ => cases e
theorem StOk.seqOf (s : StOk p F α S H) {d : D} {v : V} {xs : List D} (r : Rp p F α v d) (e : seqOf S d = some xs) : ∃ a vs, v = .ref a ∧ (SqL p.K H a vs ∨ SqT p.K H a vs) ∧ Rps p F α vs xs := by
  cases d with
  | tup ys =>
    have e' : ys = xs := Option.some.inj e
    subst e'
    cases r with
    | tup h1 h2 => exact ⟨_, _, rfl, .inr (s.sqt h1), h2⟩
  | lst ys => obtain ⟨a, vs, h1, h2, h3⟩ := s.lstOf (d := .lst ys) r e; exact ⟨a, vs, h1, .inl h2, h3⟩
  | own k => obtain ⟨a, vs, h1, h2, h3⟩ := s.lstOf (d := .own k) r e; exact ⟨a, vs, h1, .inl h2, h3⟩
  | _ => cases e
theorem StOk.dpS (s : StOk p F α S H) {d : D} {v : V} {q : PyData} (r : Rp p F α v d) (e : toPS S d = some q) : Dp p.K H v q := by
  cases d with
  | own k =>
    unfold toPS at e
    dsimp only at e
    cases e1 : GB.lstOf S (.own k) with
    | none => rw [e1] at e; cases e
    | some xs =>
      rw [e1] at e
      have e : (toPs xs).map PyData.list = some q := e
      cases e2 : toPs xs with
      | none => rw [e2] at e; cases e
      | some qs =>
        rw [e2] at e; cases e
        obtain ⟨a, vs, rfl, h2, h3⟩ := s.lstOf r e1
        exact .lst h2 (Rps.dp s xs vs qs h3 e2)
  | _ => exact Rp.dp s _ v q r e
end

/-! ### what the operators do -/
abbrev szT (n : Nat) (r : R D) : R D := if n ≤ sizeLine then r else .no
def repl (n : Int) (xs : List D) : List D := (List.replicate n.toNat xs).flatten
def opAdd : D → D → Sto → R D
  | .int a, .int b, S => .ok (.int (a + b)) S
  | .str a, .str b, S => if a.length + b.length ≤ sizeLine then .ok (.str (a ++ b)) S else .no
  | .tup a, .tup b, S => if a.length + b.length ≤ sizeLine then .ok (.tup (a ++ b)) S else .no
  | d, e, S => match lstOf S d, lstOf S e with
    | some a, some b => if a.length + b.length ≤ sizeLine then .ok (.lst (a ++ b)) S else .no
    | _, _ => .no
def opSub : D → D → Sto → R D
  | .int a, .int b, S => .ok (.int (a - b)) S
  | _, _, _ => .no
def strMul (a : Str) (n : Int) : Str := ⟨(List.replicate n.toNat a.cps.toList).flatten.toArray⟩
def opMul : D → D → Sto → R D
  | .int a, .int b, S => if (-(2 ^ 64) < a ∧ a < 2 ^ 64) ∨ (-(2 ^ 64) < b ∧ b < 2 ^ 64) then .ok (.int (a * b)) S else .no
  | .str a, .int n, S => if 0 ≤ n ∧ n ≤ 100000 ∧ a.length ≤ 100 then .ok (.str (strMul a n)) S else .no
  | .tup a, .int n, S => if a ≠ [] ∧ 2 ≤ n ∧ n ≤ 1000 ∧ a.length ≤ 1000 then .ok (.tup (repl n a)) S else .no
  | d, .int n, S => match lstOf S d with
    | some a => if 0 ≤ n ∧ n ≤ 1000 ∧ a.length ≤ 1000 then .ok (.lst (repl n a)) S else .no
    | _ => .no
  | _, _, _ => .no
def opDiv : D → D → Sto → R D
  | .int a, .int b, S => if 0 < b ∧ b.natAbs.log2 < 9000 then .ok (.int (a / b)) S else .no
  | _, _, _ => .no
def opMod : D → D → Sto → R D
  | .int a, .int b, S => if 0 < b then .ok (.int (a % b)) S else .no
  | _, _, _ => .no
def opPow : D → D → Sto → R D
  | .int a, .int b, S => if 0 ≤ b ∧ b ≤ 1000000 ∧ a.natAbs < 2 ^ 64 then .ok (.int (a ^ b.toNat)) S else .no
  | _, _, _ => .no
def opNeg : D → Sto → R D
  | .int a, S => .ok (.int (-a)) S
  | _, _ => .no
def opLt : D → D → Sto → R D
  | .int a, .int b, S => .ok (.bl (decide (a < b))) S
  | _, _, _ => .no
def opLe : D → D → Sto → R D
  | .int a, .int b, S => .ok (.bl (decide (a ≤ b))) S
  | _, _, _ => .no
def opGt : D → D → Sto → R D
  | .int a, .int b, S => .ok (.bl (decide (b < a))) S
  | _, _, _ => .no
def opGe : D → D → Sto → R D
  | .int a, .int b, S => .ok (.bl (decide (b ≤ a))) S
  | _, _, _ => .no
/-- the scalars' own == -/
def scEq : D → D → Option Bool
  | .str a, .str b => some (decide (a = b))
  | .int a, .int b => some (decide (a = b))
  | .bl a, .bl b => some (decide (a = b))
  | .int _, .str _ => some false | .str _, .int _ => some false
  | .non, .non => some true | .non, .int _ => some false | .int _, .non => some false | .non, .str _ => some false | .str _, .non => some false | .non, .bl _ => some false | .bl _, .non => some false
  | .str _, .bl _ => some false | .bl _, .str _ => some false
  | _, _ => none
/-- == of data: none where no rule tells it -/
def eqD (S : Sto) (d e : D) : Option Bool := match scEq d e with
  | some b => some b
  | none => match toPS S d, toPS S e with
    | some a, some b => if SeqAt.shaped a && SeqAt.shaped b then some (PyData.eqv a b) else none
    | _, _ => none
def opEq (d e : D) (S : Sto) : R D := match eqD S d e with
  | some b => .ok (.bl b) S
  | none => .no
def opNe (d e : D) (S : Sto) : R D := match eqD S d e with
  | some b => .ok (.bl !b) S
  | none => .no
def isNone : D → Bool
  | .non => true
  | _ => false
def opIs : D → D → Sto → R D
  | d, .non, S => .ok (.bl (isNone d)) S
  | _, _, _ => .no
def opIsNot : D → D → Sto → R D
  | d, .non, S => .ok (.bl !(isNone d)) S
  | _, _, _ => .no
/-- x in a list, a tuple; one sign in a text -/
def inD (S : Sto) : D → D → Option Bool
  | .str a, .str b => if a.length = 1 then some (decide (a.cps.getD 0 0 ∈ b.cps.toList)) else none
  | d, e => match seqOf S e with
    | none => none
    | some xs => match toPS S d, toPs xs with
      | some a, some bs => if SeqAt.shaped a && SeqAt.shaped (.list bs) then some (bs.any fun z => PyData.eqv z a) else none
      | _, _ => none
def opIn (d e : D) (S : Sto) : R D := match inD S d e with
  | some b => .ok (.bl b) S
  | none => .no
def opNotIn (d e : D) (S : Sto) : R D := match inD S d e with
  | some b => .ok (.bl !b) S
  | none => .no

/-! ### the rules give them -/
section
variable {X : Cx}
theorem op_catL : OpR X (binaryOp .Add) (fun x y H Q => ∃ l b xs zs, x = .ref l ∧ y = .ref b ∧ SqL X.K H l xs ∧ SqL X.K H b zs ∧ xs.length + zs.length ≤ sizeLine ∧ ∀ p, H p = none → Q (.ref p) (upd H p (.lst (xs ++ zs)))) := by
  intro pins s σ H x y v u Q I rx ry h
  obtain ⟨l, b, xs, zs, rfl, rfl, hH, hB, hz, q⟩ := h
  cases rx
  cases ry
  obtain ⟨its, r, ⟨⟨cls, dd, data, sl⟩, n, ho, hc, hdd, hd⟩, hl⟩ := I.list hH
  obtain ⟨its2, r2, ⟨⟨cls2, dd2, data2, sl2⟩, n2, ho2, hc2, hdd2, hd2⟩, hl2⟩ := I.list hB
  simp only at hc hdd hd hc2 hdd2 hd2
  subst hc hd hc2 hd2
  have z1 := r.length
  have z2 := r2.length
  refine PySem.concat_meets ⟨_, ho, rfl⟩ ⟨_, ho2, rfl⟩ noFill_list_add seq_list_add PySem.F.slot_list_add PySem.F.entry_list_add (PySem.F.args_list_add_2 _ _) (PyProof.Rows.list_addW l b its.toArray its2.toArray n n2 dd dd2 sl sl2 (by simp; omega)) ⟨ho, ho2, ?_⟩
  have ea : its.toArray ++ its2.toArray = (its ++ its2).toArray := by simp
  rw [ea]
  exact ⟨.ref _, _, I.lnew (t' := s.toks) (r.append r2) (by rw [List.length_append]; omega), rfl, q _ I.fresh⟩
end
section
variable {p : Pc} {N : List Str} {k : Nat} {sc : Sco} {a b : Expr} {f g : Sem} {pos : Pos}
theorem szOf (x : Str) : x.length = x.cps.toList.length := by show x.cps.size = _; simp
def rAddA (X : Cx) : R2 := fun x y H Q => (rI0 fun i j => .int (i + j)) x y H Q ∨ (∃ i j, x = .str i ∧ y = .str j ∧ i.length + j.length ≤ sizeLine ∧ Q (.str (i ++ j)) H) ∨ rCatA X.K x y H Q ∨
  ∃ l b xs zs, x = .ref l ∧ y = .ref b ∧ SqL X.K H l xs ∧ SqL X.K H b zs ∧ xs.length + zs.length ≤ sizeLine ∧ ∀ p, H p = none → Q (.ref p) (upd H p (.lst (xs ++ zs)))
theorem addR (X : Cx) : OpR X (binaryOp .Add) (rAddA X) := op_add.or (op_add_str.or (op_catA.or op_catL))
theorem addG {W : WX} {X : Cx} (c : COk p N k sc W X) : OpG p opAdd (rAddA X) := by
  intro F α S H v w d e Q E s r1 r2 q
  have lists : ∀ xs ys, lstOf S d = some xs → lstOf S e = some ys → Sat p F α (if xs.length + ys.length ≤ sizeLine then .ok (.lst (xs ++ ys)) S else .no) Q E → rAddA X v w H Q := fun xs ys e1 e2 q => by
    split at q
    · rename_i hz
      obtain ⟨a, vs, rfl, h1, h2⟩ := s.lstOf r1 e1
      obtain ⟨b, ws, rfl, h3, h4⟩ := s.lstOf r2 e2
      refine .inr (.inr (.inr ⟨a, b, vs, ws, rfl, rfl, by rw [c.K]; exact h1, by rw [c.K]; exact h3, by rw [h2.length, h4.length]; exact hz, q.lst s (h2.append h4)⟩))
    · exact q.elim
  have fall : Sat p F α (match lstOf S d, lstOf S e with
    | some a, some b => if a.length + b.length ≤ sizeLine then .ok (.lst (a ++ b)) S else .no
    | _, _ => .no) Q E → rAddA X v w H Q := fun q => by
    cases e1 : lstOf S d with
    | none => rw [e1] at q; exact q.elim
    | some xs =>
      cases e2 : lstOf S e with
      | none => rw [e1, e2] at q; exact q.elim
      | some ys => rw [e1, e2] at q; exact lists xs ys e1 e2 q
  unfold opAdd at q
  split at q
  · cases r1; cases r2
    exact .inl ⟨_, _, rfl, rfl, q.here s (.int _)⟩
  · cases r1; cases r2
    split at q
    · rename_i hz
      exact .inr (.inl ⟨_, _, rfl, rfl, hz, q.here s (.str _)⟩)
    · exact q.elim
  · split at q
    · rename_i x y hz
      cases r1 with
      | tup h1 h2 =>
        cases r2 with
        | tup h3 h4 =>
          rename_i a vs b ws
          refine .inr (.inr (.inl ⟨_, _, _, _, rfl, rfl, by rw [c.K]; exact s.sqt h1, by rw [c.K]; exact s.sqt h3, by rw [h2.length, h4.length]; exact hz, fun hx => ?_, fun hx hy => ?_, fun hx hy => q.tup s (h2.append h4)⟩))
          · subst hx
            cases h2
            exact q.here s (.tup h3 (by simpa using h4))
          · subst hy
            cases h4
            exact q.here s (.tup h1 (by simpa using h2))
    · exact q.elim
  · exact fall q
theorem je_add (ha : JE p N k sc a f) (hb : JE p N k sc b g) : JE p N k sc (.BinOp a .Add b pos) (sem2 opAdd f g) := je_op (fun _ X _ => addR X) (fun _ _ c => addG c) ha hb
theorem je_sub (ha : JE p N k sc a f) (hb : JE p N k sc b g) : JE p N k sc (.BinOp a .Sub b pos) (sem2 opSub f g) := je_op (r := fun _ => _) (fun _ X _ => op_sub) (fun _ _ c => by
  intro F α S H v w d e Q E s r1 r2 q
  unfold opSub at q
  split at q
  · cases r1; cases r2
    exact ⟨_, _, rfl, rfl, q.here s (.int _)⟩
  · exact q.elim) ha hb
theorem je_fdiv (ha : JE p N k sc a f) (hb : JE p N k sc b g) : JE p N k sc (.BinOp a .FloorDiv b pos) (sem2 opDiv f g) := je_op (r := fun _ => _) (fun _ X _ => op_fdivW) (fun _ _ c => by
  intro F α S H v w d e Q E s r1 r2 q
  unfold opDiv at q
  split at q
  · cases r1; cases r2
    split at q
    · rename_i h
      exact ⟨_, _, rfl, rfl, h, q.here s (.int _)⟩
    · exact q.elim
  · exact q.elim) ha hb
theorem je_mod (ha : JE p N k sc a f) (hb : JE p N k sc b g) : JE p N k sc (.BinOp a .Mod b pos) (sem2 opMod f g) := je_op (r := fun _ => _) (fun _ X _ => op_mod) (fun _ _ c => by
  intro F α S H v w d e Q E s r1 r2 q
  unfold opMod at q
  split at q
  · cases r1; cases r2
    split at q
    · rename_i h
      exact ⟨_, _, rfl, rfl, h, q.here s (.int _)⟩
    · exact q.elim
  · exact q.elim) ha hb
theorem je_pow (ha : JE p N k sc a f) (hb : JE p N k sc b g) : JE p N k sc (.BinOp a .Pow b pos) (sem2 opPow f g) := je_op (r := fun _ => _) (fun _ X _ => op_pow) (fun _ _ c => by
  intro F α S H v w d e Q E s r1 r2 q
  unfold opPow at q
  split at q
  · cases r1; cases r2
    split at q
    · rename_i h
      exact ⟨_, _, rfl, rfl, h, q.here s (.int _)⟩
    · exact q.elim
  · exact q.elim) ha hb
theorem je_neg (ha : JE p N k sc a f) : JE p N k sc (.UnaryOp .USub a pos) (sem1 opNeg f) := je_un (r := fun _ => _) (fun _ X _ => un_neg) (fun _ _ c => by
  intro F α S H v d Q E s r1 q
  unfold opNeg at q
  split at q
  · cases r1
    exact ⟨_, rfl, q.here s (.int _)⟩
  · exact q.elim) ha
end
end GB
namespace GB
open PySem L2

section
variable {X : Cx}
/-- a text times an int that is not below 0 -/
def rMulS : R2 := fun x y H Q => ∃ (a : Str) (n : Int), x = .str a ∧ y = .int n ∧ 0 ≤ n ∧ n ≤ 100000 ∧ a.length ≤ 100 ∧ Q (.str (strMul a n)) H
theorem foldl_app (xs : List Nat) : ∀ (m : Nat) (acc : List Nat), (List.replicate m xs.toArray).foldl (· ++ ·) acc.toArray = (acc ++ (List.replicate m xs).flatten).toArray
  | 0, acc => by simp
  | m + 1, acc => by
    rw [List.replicate_succ, List.foldl_cons, List.replicate_succ, List.flatten_cons, ← List.append_assoc]
    have := foldl_app xs m (acc ++ xs)
    rw [← this]
    congr 1
    simp
theorem flat_len (xs : List Nat) : ∀ m : Nat, (List.replicate m xs).flatten.length = m * xs.length
  | 0 => by simp
  | m + 1 => by rw [List.replicate_succ, List.flatten_cons, List.length_append, flat_len xs m, Nat.succ_mul]; omega
theorem op_mulS : OpR X (binaryOp .Mult) rMulS := by
  intro pins s σ H x y v u Q I rx ry h
  obtain ⟨a, n, rfl, rfl, h0, h1, h2, q⟩ := h
  obtain ⟨t, rfl⟩ := rx
  obtain ⟨t', rfl⟩ := ry
  have hl : a.length = a.cps.size := rfl
  refine PySem.P.mul_str (by
    have e1 : decide (n < -(2 ^ 63 : Int)) = false := decide_eq_false (by omega)
    have e2 : decide (n ≥ 2 ^ 63) = false := decide_eq_false (by omega)
    rw [e1, e2, Bool.or_false]) (fun hn _ => ?_) (fun _ _ => ?_) ?_
  · have h3 : (0 : Int) < n := by omega
    have h4 : (100 : Int) ≤ (2 ^ 63 - 1) / n := by
      rw [Int.le_ediv_iff_mul_le h3]; omega
    omega
  · have hz : a.length * n.toNat ≤ 100 * 100000 := Nat.mul_le_mul h2 (by omega)
    show Builtin.Str.tooLong _ = false
    unfold Builtin.Str.tooLong
    have : ¬ (a.length * n.toNat > sizeLine) := by rw [sizeLine_eq]; omega
    first
      | exact decide_eq_false this
      | simp [this]
  · split
    · rename_i hn
      have e : n = 0 := by omega
      subst e
      refine ⟨by decide, ?_⟩
      exact ⟨.str (strMul a 0), H, I.tok _, ⟨_, by unfold strMul; rfl⟩, q⟩
    · rename_i hn
      split
      · rename_i hb
        show EP X pins σ Q (.str a t) s
        refine ⟨.str (strMul a n), H, I, ⟨t, ?_⟩, q⟩
        have : strMul a n = a := by
          rcases Bool.or_eq_true_iff.mp hb with hb | hb
          · have : n = 1 := eq_of_beq hb
            subst this
            unfold strMul
            simp
          · have hz : a.cps.size = 0 := eq_of_beq hb
            have hz2 : a.cps = #[] := Array.size_eq_zero_iff.mp hz
            obtain ⟨c⟩ := a
            simp only at hz2
            subst hz2
            unfold strMul
            simp
        rw [this]
      · have ee : (⟨(List.replicate n.toNat a.cps).foldl (· ++ ·) #[]⟩ : Str) = strMul a n := by
          have := foldl_app a.cps.toList n.toNat []
          simp only [Array.toArray_toList, List.nil_append] at this
          unfold strMul
          rw [← this]
        rw [ee]
        refine ⟨?_, ⟨.str (strMul a n), H, I.tok _, ⟨_, rfl⟩, q⟩⟩
        have hz : a.length * n.toNat ≤ 100 * 100000 := Nat.mul_le_mul h2 (by omega)
        have hsz : (strMul a n).length = n.toNat * a.length := by
          show (List.replicate n.toNat a.cps.toList).flatten.toArray.size = _
          rw [List.size_toArray, flat_len]; simp [Str.length]
        first
          | (show (strMul a n).length ≤ sizeLine; rw [hsz, sizeLine_eq, Nat.mul_comm]; omega)
          | (simp [hsz, sizeLine_eq, Builtin.Str.tooLong]; omega)
end

section
open PySem.AutoSeq1 (wpAny_loadPart')
theorem int_rmul_list (a : Int) (t : Tok) (l : Addr) (items : Array Value) (n : Nat) (dd : Option Addr) (sl : Array (Option Value)) :
    Meets (Builtin.«int.__rmul__» ⟨[.int a t, .ref l], []⟩) (fun _ R s => s.heap.get? l = some { cls := .type "list", dict := dd, data := .seq items n, slots := sl } ∧ R (.ok (.ret Value.notImplemented)) s) :=
  .of_wp fun prog w A R s h => by obtain ⟨hp, g, d, tk, os⟩ := s; obtain ⟨hl, h⟩ := h; wp_walk using wpAny_loadPart' hl; exact ⟨_, rfl, h⟩
theorem list_mulW (l : Addr) (items : Array Value) (n : Nat) (dd : Option Addr) (sl : Array (Option Value)) (x : Int) (u : Tok) (hc0 : ¬(!Builtin.List.listFitsIndex x) = true) (hc1 : ¬items.size * x.toNat > (2 ^ 63 - 1) / 8) (hc2 : ¬Builtin.List.listTooLong (items.size * x.toNat) = true) :
    Meets (Builtin.«list.__mul__» ⟨[.ref l, .int x u], []⟩) (fun _ R s => s.heap.get? l = some { cls := .type "list", dict := dd, data := .seq items n, slots := sl } ∧ R (.ok (.ret (Value.ref s.heap.objs.size))) { s with heap := s.heap.push { cls := Value.type "list", data := Data.seq (List.foldl (fun x1 x2 => x1 ++ x2) #[] (List.replicate (if items.isEmpty = true then 0 else x.toNat) items)) }, toks := s.toks }) :=
  .of_wp fun prog w A R s h => by
    obtain ⟨hp, g, d, tk, os⟩ := s; obtain ⟨hl, h⟩ := h
    have f1 := AutoSeq1.idx_int
    have hsz := PySem.AutoListH.joined_fits hc2
    wp_walk using wpAny_loadPart' hl
    refine wpAny_ite_false (decide_eq_false (Nat.not_lt.mpr hsz)) ?_
    wp_walk using wpAny_loadPart' hl
    exact ⟨_, rfl, h⟩
end
section
variable {X : Cx}
/-- a list times an int, any list -/
def rRepL (K : PySem.W.Frag) : R2 := fun x y H Q => ∃ l k xs, x = .ref l ∧ y = .int k ∧ SqL K H l xs ∧ 0 ≤ k ∧ k ≤ 1000 ∧ xs.length ≤ 1000 ∧ ∀ p, H p = none → Q (.ref p) (upd H p (.lst (List.replicate k.toNat xs).flatten))
theorem op_repL : OpR X (binaryOp .Mult) (rRepL X.K) := by
  intro pins s σ H x y v u Q I rx ry h
  obtain ⟨l, k, xs, rfl, rfl, hT, h1, h2, hz, q⟩ := h
  cases rx
  obtain ⟨t, rfl⟩ := ry
  obtain ⟨its, r, ⟨⟨cls, dd, data, sl⟩, n, ho, hc, hdd, hd⟩, hs⟩ := I.list hT
  simp only at hc hdd hd
  subst hc hd
  have hle : its.length = xs.length := r.length.symm
  have a0 : xs.length * k.toNat ≤ 1000 * 1000 := Nat.mul_le_mul hz (by omega)
  have hlen : its.toArray.size * k.toNat ≤ sizeLine := by rw [List.size_toArray, hle, sizeLine_eq]; omega
  have hcap : ¬ its.toArray.size * k.toNat > (2 ^ 63 - 1) / 8 := by
    have : (sizeLine : Nat) ≤ (2 ^ 63 - 1) / 8 := by decide
    omega
  have hfit : ¬ (!Builtin.List.listFitsIndex k) = true := by
    rw [fitsIndex_both (by omega) (by omega)]
    exact Bool.false_ne_true
  have hlong : ¬ Builtin.List.listTooLong (its.toArray.size * k.toNat) = true := by
    rw [notLongL hlen]
    exact Bool.false_ne_true
  have hnew : List.foldl (fun x1 x2 => x1 ++ x2) #[] (List.replicate (if its.toArray.isEmpty = true then 0 else k.toNat) its.toArray) = (List.replicate k.toNat its).flatten.toArray := by
    rw [size_rep]
    cases its with
    | nil => simp
    | cons a r' => rw [if_neg (by simp)]
  refine wpAny_binaryOp_repeat_ref (T := "list") (U := "int") (by decide) ⟨_, ho, rfl⟩ (fun s' => typeIs_int s' k t) noFill_list_mul F.fills_int_mul F.slot_int_rmul repeat_list F.slot_int_index.lookup
    (call_meets F.slot_int_rmul (typeIs_int s k t) F.entry_int_rmul (F.args_int_rmul_2 _ _) (int_rmul_list k t l its.toArray n dd sl)
      ⟨ho, rfl, ⟨_, ho, rfl⟩, call_meets F.slot_list_mul ⟨_, ho, rfl⟩ F.entry_list_mul (F.args_list_mul_2 _ _) (list_mulW l its.toArray n dd sl k t hfit hcap hlong) ⟨ho, ?_⟩⟩)
  rw [hnew]
  exact ⟨.ref _, _, I.lnew (t' := s.toks) (r.rep k.toNat) (by rw [PyProof.Rows.lm_len_rep_flat, Nat.mul_comm, sizeLine_eq]; omega), rfl, q _ I.fresh⟩
/-- x in a list or a tuple of data of any depth -/
def rInA (K : PySem.W.Frag) (neg : Bool) : R2 := fun x y H Q => ∃ d ds, Dp K H x d ∧ (Dp K H y (.list ds) ∨ Dp K H y (.tuple ds)) ∧ SeqAt.shaped d = true ∧ SeqAt.shaped (.list ds) = true ∧ Q (.bl (if neg then !(ds.any fun z => PyData.eqv z d) else ds.any fun z => PyData.eqv z d)) H
theorem shapedT {ds : List PyData} (h : SeqAt.shaped (.list ds) = true) : SeqAt.shaped (.tuple ds) = true := by
  unfold SeqAt.shaped at h ⊢
  simpa [PyData.canLay0, PyData.depth] using h
theorem room_tup {A : Around} {ds : List PyData} {d : PyData} (sd : SeqAt.shaped d = true) (hu : A.units + 65 < cLine) : A.units + 1 + min (PyData.depthAll ds) d.depth < cLine := PyProof.Rows.room_in_shaped sd hu
theorem op_inA (hu : X.A.units + 65 < cLine) : OpR X (compareOp .In) (rInA X.K false) := by
  intro pins s σ H x y v u Q I rx ry h
  obtain ⟨d, ds, hd, he, sd, se, q⟩ := h
  obtain ⟨as, r1⟩ := Dp.reads I d x v hd rx
  rcases he with he | he
  · obtain ⟨bs, r2⟩ := Dp.reads I (.list ds) y u he ry
    exact SeqAt.in_list_reads r2 r1 (SeqAt.canLay_of_shaped se) (SeqAt.canLay_of_shaped sd) (PyProof.Rows.room_in_shaped sd hu) ⟨.bl _, H, I, rfl, q⟩
  · obtain ⟨bs, r2⟩ := Dp.reads I (.tuple ds) y u he ry
    exact SeqAt.in_tuple_reads r2 r1 (SeqAt.canLay_of_shaped se) (SeqAt.canLay_of_shaped sd) (PyProof.Rows.room_in_shaped sd hu) ⟨.bl _, H, I, rfl, q⟩
theorem op_notInA (hu : X.A.units + 65 < cLine) : OpR X (compareOp .NotIn) (rInA X.K true) := by
  intro pins s σ H x y v u Q I rx ry h
  obtain ⟨d, ds, hd, he, sd, se, q⟩ := h
  obtain ⟨as, r1⟩ := Dp.reads I d x v hd rx
  rcases he with he | he
  · obtain ⟨bs, r2⟩ := Dp.reads I (.list ds) y u he ry
    exact SeqAt.notIn_list_reads r2 r1 (SeqAt.canLay_of_shaped se) (SeqAt.canLay_of_shaped sd) (PyProof.Rows.room_in_shaped sd hu) ⟨.bl _, H, I, rfl, q⟩
  · obtain ⟨bs, r2⟩ := Dp.reads I (.tuple ds) y u he ry
    exact SeqAt.notIn_tuple_reads r2 r1 (SeqAt.canLay_of_shaped se) (SeqAt.canLay_of_shaped sd) (PyProof.Rows.room_in_shaped sd hu) ⟨.bl _, H, I, rfl, q⟩
end
section
variable {p : Pc} {N : List Str} {k : Nat} {sc : Sco} {a b : Expr} {f g : Sem} {pos : Pos}
def rMulA (X : Cx) : R2 := fun x y H Q => (rI CMul fun i j => .int (i * j)) x y H Q ∨ rMulS x y H Q ∨ rRepT X.K x y H Q ∨ rRepL X.K x y H Q
theorem mulR (X : Cx) : OpR X (binaryOp .Mult) (rMulA X) := op_mul.or (op_mulS.or (op_repT.or op_repL))
theorem mulG {W : WX} {X : Cx} (c : COk p N k sc W X) : OpG p opMul (rMulA X) := by
  intro F α S H v w d e Q E s r1 r2 q
  unfold opMul at q
  split at q
  · cases r1; cases r2
    split at q
    · rename_i h
      exact .inl ⟨_, _, rfl, rfl, h, q.here s (.int _)⟩
    · exact q.elim
  · cases r1; cases r2
    split at q
    · rename_i h
      exact .inr (.inl ⟨_, _, rfl, rfl, h.1, h.2.1, h.2.2, q.here s (.str _)⟩)
    · exact q.elim
  · cases r2
    split at q
    · rename_i h
      cases r1 with
      | tup h1 h2 =>
        refine .inr (.inr (.inl ⟨_, _, _, rfl, rfl, by rw [c.K]; exact s.sqt h1, fun z => ?_, h.2.1, h.2.2.1, by rw [h2.length]; exact h.2.2.2, q.tup s (h2.flat _)⟩))
        subst z
        cases h2
        exact h.1 rfl
    · exact q.elim
  · cases r2
    split at q
    · rename_i xs e1
      split at q
      · rename_i h
        obtain ⟨a, vs, rfl, h1, h2⟩ := s.lstOf r1 e1
        exact .inr (.inr (.inr ⟨_, _, _, rfl, rfl, by rw [c.K]; exact h1, h.1, h.2.1, by rw [h2.length]; exact h.2.2, q.lst s (h2.flat _)⟩))
      · exact q.elim
    · exact q.elim
  · exact q.elim
theorem je_mul (ha : JE p N k sc a f) (hb : JE p N k sc b g) : JE p N k sc (.BinOp a .Mult b pos) (sem2 opMul f g) := je_op (fun _ X _ => mulR X) (fun _ _ c => mulG c) ha hb

/-! ### comparisons -/
theorem OpI {op : D → D → Sto → R D} {g : Int → Int → Bool} (h : ∀ d e S, op d e S = .no ∨ ∃ i j, d = .int i ∧ e = .int j ∧ op d e S = .ok (.bl (g i j)) S) : OpG p op (rI0 fun i j => .bl (g i j)) := by
  intro F α S H v w d e Q E s r1 r2 q
  rcases h d e S with h | ⟨i, j, rfl, rfl, h⟩
  · rw [h] at q; exact q.elim
  · rw [h] at q
    cases r1; cases r2
    exact ⟨_, _, rfl, rfl, q.here s (.bl _)⟩
theorem je_lt (ha : JE p N k sc a f) (hb : JE p N k sc b g) : JE p N k sc (.Compare a [.Lt] [b] pos) (sem2 opLt f g) := je_cmp (r := fun _ => _) (fun _ X _ => op_lt) (fun _ _ c => OpI fun d e S => by unfold opLt; split <;> simp) ha hb (nomark _)
theorem je_le (ha : JE p N k sc a f) (hb : JE p N k sc b g) : JE p N k sc (.Compare a [.LtE] [b] pos) (sem2 opLe f g) := je_cmp (r := fun _ => _) (fun _ X _ => op_le) (fun _ _ c => OpI fun d e S => by unfold opLe; split <;> simp) ha hb (nomark _)
theorem je_gt (ha : JE p N k sc a f) (hb : JE p N k sc b g) : JE p N k sc (.Compare a [.Gt] [b] pos) (sem2 opGt f g) := je_cmp (r := fun _ => _) (fun _ X _ => op_gt) (fun _ _ c => OpI fun d e S => by unfold opGt; split <;> simp) ha hb (nomark _)
theorem je_ge (ha : JE p N k sc a f) (hb : JE p N k sc b g) : JE p N k sc (.Compare a [.GtE] [b] pos) (sem2 opGe f g) := je_cmp (r := fun _ => _) (fun _ X _ => op_ge) (fun _ _ c => OpI fun d e S => by unfold opGe; split <;> simp) ha hb (nomark _)
/-- a <= b <= c over ints -/
def semLeLe (f g h : Sem) : Sem := fun ρ S => (f ρ S).bind fun x S1 => (g ρ S1).bind fun y S2 => match x, y with
  | .int i, .int j => if i ≤ j then (h ρ S2).bind fun z S3 => opLe y z S3 else .ok (.bl false) S2
  | _, _ => .no
theorem je_lele {c : Expr} {h : Sem} (ha : JE p N k sc a f) (hb : JE p N k sc b g) (hc : JE p N k sc c h) (hm : lastMarks [CmpOp.LtE, CmpOp.LtE] [b, c] = false := by with_unfolding_all rfl) : JE p N k sc (.Compare a [.LtE, .LtE] [b, c] pos) (semLeLe f g h) := fun W X cc => by
  refine PE.imp (pe_chain op_le op_le (ha W X cc) (hb W X cc) (hc W X cc) hm) fun σ H Q hq => ?_
  obtain ⟨F, α, S, ρ, s, e, q⟩ := hq
  refine ⟨F, α, S, ρ, s, e, (Sat.bind q).imp (fun v H1 ⟨F1, α1, S1, d, x, s1, r1, q1⟩ => ⟨F1, α1, S1, ρ, s1, e.ext x, (Sat.bind q1).imp (fun w H2 ⟨F2, α2, S2, d2, x2, s2, r2, q2⟩ => ?_) fun _ _ _ z => z⟩) fun _ _ _ z => z⟩
  split at q2
  · cases r1; cases r2
    refine ⟨_, _, rfl, rfl, _, rfl, ?_⟩
    split at q2
    · rename_i hij
      rw [if_pos (decide_eq_true hij)]
      refine ⟨F2, α2, S2, ρ, s2, (e.ext x).ext x2, (Sat.bind q2).imp (fun w H3 ⟨F3, α3, S3, d3, x3, s3, r3, q3⟩ => ?_) fun _ _ _ z => z⟩
      unfold opLe at q3
      split at q3
      · rename_i j' m e1
        cases e1
        cases r3
        exact ⟨_, m, rfl, rfl, q3.here s3 (.bl _)⟩
      · exact q3.elim
    · rename_i hij
      rw [if_neg (by simpa using hij)]
      exact q2.here s2 (.bl _)
  · exact q2.elim
def rEqA (X : Cx) : R2 := fun x y H Q => rEq x y H Q ∨ rEqD X.K x y H Q
def rNeA (X : Cx) : R2 := fun x y H Q => rNe x y H Q ∨ rNeD X.K x y H Q
theorem eqD_rel {W : WX} {X : Cx} (c : COk p N k sc W X) {F : Hp} {α : List Addr} {S : Sto} {H : Hp} {v w : V} {d e : D} {r : Bool} (s : StOk p F α S H) (r1 : Rp p F α v d) (r2 : Rp p F α w e) (h : eqD S d e = some r) :
    (scal v w = true ∧ decide (v = w) = r) ∨ ∃ x y, Dp X.K H v x ∧ Dp X.K H w y ∧ SeqAt.shaped x = true ∧ SeqAt.shaped y = true ∧ PyData.eqv x y = r := by
  unfold eqD at h
  split at h
  · rename_i b hb
    cases h
    left
    unfold scEq at hb
    split at hb <;> first
      | (cases hb; done)
      | (cases r1; cases r2; cases hb; refine ⟨rfl, ?_⟩; simp)
  · split at h
    · rename_i x y hx hy
      split at h
      · rename_i hs
        cases h
        rw [Bool.and_eq_true] at hs
        exact .inr ⟨x, y, by rw [c.K]; exact s.dpS r1 hx, by rw [c.K]; exact s.dpS r2 hy, hs.1, hs.2, rfl⟩
      · cases h
    · cases h
theorem je_eq (ha : JE p N k sc a f) (hb : JE p N k sc b g) : JE p N k sc (.Compare a [.Eq] [b] pos) (sem2 opEq f g) := je_cmp (r := rEqA) (fun _ X c => op_eq.or (op_eqD c.room.units)) (fun _ X c => by
  intro F α S H v w d e Q E s r1 r2 q
  unfold opEq at q
  split at q
  · rename_i b hb
    rcases eqD_rel c s r1 r2 hb with ⟨h1, h2⟩ | ⟨x, y, h1, h2, h3, h4, h5⟩
    · exact .inl ⟨h1, by rw [h2]; exact q.here s (.bl _)⟩
    · exact .inr ⟨x, y, h1, h2, h3, h4, by rw [h5]; exact q.here s (.bl _)⟩
  · exact q.elim) ha hb (nomark _)
theorem je_ne (ha : JE p N k sc a f) (hb : JE p N k sc b g) : JE p N k sc (.Compare a [.NotEq] [b] pos) (sem2 opNe f g) := je_cmp (r := rNeA) (fun _ X c => op_ne.or (op_neD c.room.units)) (fun _ X c => by
  intro F α S H v w d e Q E s r1 r2 q
  unfold opNe at q
  split at q
  · rename_i b hb
    rcases eqD_rel c s r1 r2 hb with ⟨h1, h2⟩ | ⟨x, y, h1, h2, h3, h4, h5⟩
    · exact .inl ⟨h1, by rw [h2]; exact q.here s (.bl _)⟩
    · exact .inr ⟨x, y, h1, h2, h3, h4, by rw [h5]; exact q.here s (.bl _)⟩
  · exact q.elim) ha hb (nomark _)
theorem isNone_rel {F : Hp} {α : List Addr} {v : V} {d : D} (r : Rp p F α v d) : decide (v = .non) = isNone d := by
  cases r <;> simp [isNone]
theorem je_is (ha : JE p N k sc a f) (hb : JE p N k sc b g) : JE p N k sc (.Compare a [.Is] [b] pos) (sem2 opIs f g) := je_cmp (r := fun _ => _) (fun _ X c => op_isN) (fun _ X c => by
  intro F α S H v w d e Q E s r1 r2 q
  unfold opIs at q
  split at q
  · cases r2
    exact ⟨rfl, by rw [isNone_rel r1]; exact q.here s (.bl _)⟩
  · exact q.elim) ha hb (nomark _)
theorem je_isnot (ha : JE p N k sc a f) (hb : JE p N k sc b g) : JE p N k sc (.Compare a [.IsNot] [b] pos) (sem2 opIsNot f g) := je_cmp (r := fun _ => _) (fun _ X c => op_notN) (fun _ X c => by
  intro F α S H v w d e Q E s r1 r2 q
  unfold opIsNot at q
  split at q
  · cases r2
    exact ⟨rfl, by rw [isNone_rel r1]; exact q.here s (.bl _)⟩
  · exact q.elim) ha hb (nomark _)
end
end GB
/-! Tests, displays, subscripts. -/
namespace GB
open PySem L2
section
variable {p : Pc} {N : List Str} {k : Nat} {sc : Sco} {a b c : Expr} {rest : List Expr} {f g h : Sem} {pos : Pos}
/-! ### tests -/
/-- an expression whose value is a bool, as a test -/
theorem jt_val (h : JE p N k sc a f) (he : ∀ (env : PySem.Env) whole, isTrue a env whole = (do let v ← whole; standAt a.pos; holding [v] (truthy v)) := by intro _ _; rfl) : JT p N k sc a f := fun W X c =>
  PT.imp (pt_val (h W X c) (he X.env)) fun σ H Q hq => hq
theorem jt_cmp {o : CmpOp} {op : D → D → Sto → R D} {r : Cx → R2} (ho : ∀ W X, COk p N k sc W X → OpR X (compareOp o) (r X)) (hr : ∀ W X, COk p N k sc W X → OpG p op (r X)) (ha : JE p N k sc a f) (hb : JE p N k sc b g) (hm : behindInMarks o b = false) : JT p N k sc (.Compare a [o] [b] pos) (sem2 op f g) := fun W X c => by
  refine PT.imp (pt_cmpR (ho W X c) (ha W X c) (hb W X c) hm) fun σ H Q hq => ?_
  obtain ⟨F, α, S, ρ, s, e, q⟩ := LE.two hq
  exact ⟨F, α, S, ρ, s, e, q.imp (fun v H1 h1 => by
    obtain ⟨F, α, S, ρ, s, e, q⟩ := h1
    exact ⟨F, α, S, ρ, s, e, q.imp (fun w H2 ⟨F, α, S, d, e, s, r1, r2, q⟩ => hr W X c F α S H2 v w d e _ _ s r1 r2 q) fun _ _ _ z => z⟩) fun _ _ _ z => z⟩
def semAnd (f g : Sem) : Sem := fun ρ S => (f ρ S).bind fun x S1 => match x with
  | .bl true => g ρ S1
  | .bl false => .ok (.bl false) S1
  | _ => .no
def semOr (f g : Sem) : Sem := fun ρ S => (f ρ S).bind fun x S1 => match x with
  | .bl true => .ok (.bl true) S1
  | .bl false => g ρ S1
  | _ => .no
def opNot : D → Sto → R D
  | .bl b, S => .ok (.bl !b) S
  | _, _ => .no
def semIte (c f g : Sem) : Sem := fun ρ S => (c ρ S).bind fun x S1 => match x with
  | .bl true => f ρ S1
  | .bl false => g ρ S1
  | _ => .no
/-- a test's reading, then what follows by cases -/
theorem LT.cases {W : WX} {σ : L2.St} {H : Hp} {Q : VK} {k : D → Sto → R D} {Qb : Bool → Hp → Prop} (F : Hp) (α : List Addr) (S : Sto) (ρ : Env) (s : StOk p F α S H) (e : EnvOk p F α σ ρ) {E : XK} (hE : ∀ c d H', E c d H' → W c d σ H') (q : Sat p F α ((f ρ S).bind k) Q E)
    (hk : ∀ F1 α1 S1 d H1 v, Ext F α F1 α1 → StOk p F1 α1 S1 H1 → EnvOk p F1 α1 σ ρ → Rp p F1 α1 v d → Sat p F1 α1 (k d S1) Q E → ∃ b, v = .bl b ∧ Qb b H1) : LT p W f σ H Qb :=
  ⟨F, α, S, ρ, s, e, (Sat.bind q).imp (fun v H1 ⟨F1, α1, S1, d, x, s1, r1, q1⟩ => hk F1 α1 S1 d H1 v x s1 (e.ext x) r1 q1) hE⟩
theorem je_ite (hc : JT p N k sc c h) (ha : JE p N k sc a f) (hb : JE p N k sc b g) : JE p N k sc (.IfExp c a b pos) (semIte h f g) := fun W X cc => by
  refine PE.imp (pe_ifExp (hc W X cc) (ha W X cc) (hb W X cc)) fun σ H Q hq => ?_
  obtain ⟨F, α, S, ρ, s, e, q⟩ := hq
  refine LT.cases F α S ρ s e (fun _ _ _ z => z) q fun F1 α1 S1 d H1 v x s1 e1 r1 q1 => ?_
  split at q1
  · cases r1
    exact ⟨true, rfl, by rw [if_pos rfl]; exact ⟨F1, α1, S1, ρ, s1, e1, q1⟩⟩
  · cases r1
    exact ⟨false, rfl, by rw [if_neg Bool.false_ne_true]; exact ⟨F1, α1, S1, ρ, s1, e1, q1⟩⟩
  · exact q1.elim
/-- and, or as values: what follows in the row -/
theorem je_one {op : BoolOp} (h : JE p N k sc a f) : JE p N k sc (.BoolOp op [a] pos) f := fun W X c => pe_one (h W X c)
theorem je_and (ha : JE p N k sc a f) (hb : JE p N k sc (.BoolOp .And (b :: rest) pos) g) : JE p N k sc (.BoolOp .And (a :: b :: rest) pos) (semAnd f g) := fun W X cc => by
  refine PE.imp (pe_and (ha W X cc) (hb W X cc)) fun σ H Q hq => ?_
  obtain ⟨F, α, S, ρ, s, e, q⟩ := hq
  refine ⟨F, α, S, ρ, s, e, (Sat.bind q).imp (fun v H1 ⟨F1, α1, S1, d, x, s1, r1, q1⟩ => ?_) fun _ _ _ z => z⟩
  split at q1
  · cases r1
    exact ⟨true, rfl, by rw [if_pos rfl]; exact ⟨F1, α1, S1, ρ, s1, e.ext x, q1⟩⟩
  · cases r1
    exact ⟨false, rfl, by rw [if_neg Bool.false_ne_true]; exact q1.here s1 (.bl _)⟩
  · exact q1.elim
theorem je_or (ha : JE p N k sc a f) (hb : JE p N k sc (.BoolOp .Or (b :: rest) pos) g) : JE p N k sc (.BoolOp .Or (a :: b :: rest) pos) (semOr f g) := fun W X cc => by
  refine PE.imp (pe_or (ha W X cc) (hb W X cc)) fun σ H Q hq => ?_
  obtain ⟨F, α, S, ρ, s, e, q⟩ := hq
  refine ⟨F, α, S, ρ, s, e, (Sat.bind q).imp (fun v H1 ⟨F1, α1, S1, d, x, s1, r1, q1⟩ => ?_) fun _ _ _ z => z⟩
  split at q1
  · cases r1
    exact ⟨true, rfl, by rw [if_pos rfl]; exact q1.here s1 (.bl _)⟩
  · cases r1
    exact ⟨false, rfl, by rw [if_neg Bool.false_ne_true]; exact ⟨F1, α1, S1, ρ, s1, e.ext x, q1⟩⟩
  · exact q1.elim
theorem je_not (ha : JE p N k sc a f) : JE p N k sc (.UnaryOp .Not a pos) (sem1 opNot f) := fun W X cc => by
  refine PE.imp (pe_not (ha W X cc)) fun σ H Q hq => ?_
  obtain ⟨F, α, S, ρ, s, e, q⟩ := LE.one hq
  refine ⟨F, α, S, ρ, s, e, q.imp (fun v H1 ⟨F1, α1, S1, d, s1, r1, q1⟩ => ?_) fun _ _ _ z => z⟩
  unfold opNot at q1
  split at q1
  · cases r1
    exact ⟨_, rfl, q1.here s1 (.bl _)⟩
  · exact q1.elim
/-- the same as tests -/
def JW (p : Pc) (N : List Str) (k : Nat) (sc : Sco) (e : Expr) (f : Sem) : Prop := ∀ W X, COk p N k sc W X → PW X e (LT p W f)
theorem PW.imp {X : Cx} {e : Expr} {t t' : TT} (h : PW X e t) (i : ∀ σ H Q, t' σ H Q → t σ H Q) : PW X e t' := ⟨fun wh pins s σ H Q I hq => h.run wh pins s σ H Q I (i σ H Q hq)⟩
theorem jt_w (h : JW p N k sc a f) : JT p N k sc a f := fun W X c => (h W X c).pt
theorem jw_and1 (h : JT p N k sc a f) : JW p N k sc (.BoolOp .And [a] pos) f := fun W X c => pw_and1 (h W X c)
theorem jw_or1 (h : JT p N k sc a f) : JW p N k sc (.BoolOp .Or [a] pos) f := fun W X c => pw_or1 (h W X c)
theorem jw_and (ha : JT p N k sc a f) (hb : JW p N k sc (.BoolOp .And (b :: rest) pos) g) : JW p N k sc (.BoolOp .And (a :: b :: rest) pos) (semAnd f g) := fun W X cc => by
  refine PW.imp (pw_and (ha W X cc) (hb W X cc)) fun σ H Q hq => ?_
  obtain ⟨F, α, S, ρ, s, e, q⟩ := hq
  refine LT.cases F α S ρ s e (fun _ _ _ z => z) q fun F1 α1 S1 d H1 v x s1 e1 r1 q1 => ?_
  split at q1
  · cases r1
    exact ⟨true, rfl, by rw [if_pos rfl]; exact ⟨F1, α1, S1, ρ, s1, e1, q1⟩⟩
  · cases r1
    obtain ⟨b, e2, e3⟩ := q1.here s1 (.bl _)
    cases e2
    exact ⟨false, rfl, by rw [if_neg Bool.false_ne_true]; exact e3⟩
  · exact q1.elim
theorem jw_or (ha : JT p N k sc a f) (hb : JW p N k sc (.BoolOp .Or (b :: rest) pos) g) : JW p N k sc (.BoolOp .Or (a :: b :: rest) pos) (semOr f g) := fun W X cc => by
  refine PW.imp (pw_or (ha W X cc) (hb W X cc)) fun σ H Q hq => ?_
  obtain ⟨F, α, S, ρ, s, e, q⟩ := hq
  refine LT.cases F α S ρ s e (fun _ _ _ z => z) q fun F1 α1 S1 d H1 v x s1 e1 r1 q1 => ?_
  split at q1
  · cases r1
    obtain ⟨b, e2, e3⟩ := q1.here s1 (.bl _)
    cases e2
    exact ⟨true, rfl, by rw [if_pos rfl]; exact e3⟩
  · cases r1
    exact ⟨false, rfl, by rw [if_neg Bool.false_ne_true]; exact ⟨F1, α1, S1, ρ, s1, e1, q1⟩⟩
  · exact q1.elim
theorem jt_not (ha : JT p N k sc a f) : JT p N k sc (.UnaryOp .Not a pos) (sem1 opNot f) := fun W X cc => by
  refine PT.imp (pt_not (ha W X cc)) fun σ H Q hq => ?_
  obtain ⟨F, α, S, ρ, s, e, q⟩ := hq
  refine LT.cases F α S ρ s e (fun _ _ _ z => z) q fun F1 α1 S1 d H1 v x s1 e1 r1 q1 => ?_
  unfold opNot at q1
  split at q1
  · cases r1
    obtain ⟨b, e2, e3⟩ := q1.here s1 (.bl _)
    cases e2
    exact ⟨_, rfl, e3⟩
  · exact q1.elim
theorem jt_lt (ha : JE p N k sc a f) (hb : JE p N k sc b g) : JT p N k sc (.Compare a [.Lt] [b] pos) (sem2 opLt f g) := jt_cmp (r := fun _ => _) (fun _ X _ => op_lt) (fun _ _ c => OpI fun d e S => by unfold opLt; split <;> simp) ha hb (nomark _)
theorem jt_le (ha : JE p N k sc a f) (hb : JE p N k sc b g) : JT p N k sc (.Compare a [.LtE] [b] pos) (sem2 opLe f g) := jt_cmp (r := fun _ => _) (fun _ X _ => op_le) (fun _ _ c => OpI fun d e S => by unfold opLe; split <;> simp) ha hb (nomark _)
theorem jt_gt (ha : JE p N k sc a f) (hb : JE p N k sc b g) : JT p N k sc (.Compare a [.Gt] [b] pos) (sem2 opGt f g) := jt_cmp (r := fun _ => _) (fun _ X _ => op_gt) (fun _ _ c => OpI fun d e S => by unfold opGt; split <;> simp) ha hb (nomark _)
theorem jt_ge (ha : JE p N k sc a f) (hb : JE p N k sc b g) : JT p N k sc (.Compare a [.GtE] [b] pos) (sem2 opGe f g) := jt_cmp (r := fun _ => _) (fun _ X _ => op_ge) (fun _ _ c => OpI fun d e S => by unfold opGe; split <;> simp) ha hb (nomark _)
theorem jt_lele {c : Expr} {h : Sem} (ha : JE p N k sc a f) (hb : JE p N k sc b g) (hc : JE p N k sc c h) (hm : lastMarks [CmpOp.LtE, CmpOp.LtE] [b, c] = false := by with_unfolding_all rfl) : JT p N k sc (.Compare a [.LtE, .LtE] [b, c] pos) (semLeLe f g h) := fun W X cc => by
  refine PT.imp (pt_chain op_le op_le (ha W X cc) (hb W X cc) (hc W X cc) hm) fun σ H Q hq => ?_
  obtain ⟨F, α, S, ρ, s, e, q⟩ := hq
  refine ⟨F, α, S, ρ, s, e, (Sat.bind q).imp (fun v H1 ⟨F1, α1, S1, d, x, s1, r1, q1⟩ => ⟨F1, α1, S1, ρ, s1, e.ext x, (Sat.bind q1).imp (fun w H2 ⟨F2, α2, S2, d2, x2, s2, r2, q2⟩ => ?_) fun _ _ _ z => z⟩) fun _ _ _ z => z⟩
  split at q2
  · cases r1; cases r2
    refine ⟨_, _, rfl, rfl, _, rfl, ?_⟩
    split at q2
    · rename_i hij
      rw [if_pos (decide_eq_true hij)]
      refine ⟨F2, α2, S2, ρ, s2, (e.ext x).ext x2, (Sat.bind q2).imp (fun w H3 ⟨F3, α3, S3, d3, x3, s3, r3, q3⟩ => ?_) fun _ _ _ z => z⟩
      unfold opLe at q3
      split at q3
      · rename_i j' m e1
        cases e1
        cases r3
        exact ⟨_, m, rfl, rfl, q3.here s3 (.bl _)⟩
      · exact q3.elim
    · rename_i hij
      rw [if_neg (by simpa using hij)]
      exact q2.here s2 (.bl _)
  · exact q2.elim
theorem eqG {W : WX} {X : Cx} (c : COk p N k sc W X) : OpG p opEq (rEqA X) := by
  intro F α S H v w d e Q E s r1 r2 q
  unfold opEq at q
  split at q
  · rename_i b hb
    rcases eqD_rel c s r1 r2 hb with ⟨h1, h2⟩ | ⟨x, y, h1, h2, h3, h4, h5⟩
    · exact .inl ⟨h1, by rw [h2]; exact q.here s (.bl _)⟩
    · exact .inr ⟨x, y, h1, h2, h3, h4, by rw [h5]; exact q.here s (.bl _)⟩
  · exact q.elim
theorem neG {W : WX} {X : Cx} (c : COk p N k sc W X) : OpG p opNe (rNeA X) := by
  intro F α S H v w d e Q E s r1 r2 q
  unfold opNe at q
  split at q
  · rename_i b hb
    rcases eqD_rel c s r1 r2 hb with ⟨h1, h2⟩ | ⟨x, y, h1, h2, h3, h4, h5⟩
    · exact .inl ⟨h1, by rw [h2]; exact q.here s (.bl _)⟩
    · exact .inr ⟨x, y, h1, h2, h3, h4, by rw [h5]; exact q.here s (.bl _)⟩
  · exact q.elim
theorem isG : OpG p opIs (fun x y H Q => y = .non ∧ Q (.bl (decide (x = .non))) H) := by
  intro F α S H v w d e Q E s r1 r2 q
  unfold opIs at q
  split at q
  · cases r2
    exact ⟨rfl, by rw [isNone_rel r1]; exact q.here s (.bl _)⟩
  · exact q.elim
theorem isNotG : OpG p opIsNot (fun x y H Q => y = .non ∧ Q (.bl (!decide (x = .non))) H) := by
  intro F α S H v w d e Q E s r1 r2 q
  unfold opIsNot at q
  split at q
  · cases r2
    exact ⟨rfl, by rw [isNone_rel r1]; exact q.here s (.bl _)⟩
  · exact q.elim
theorem jt_eq (ha : JE p N k sc a f) (hb : JE p N k sc b g) : JT p N k sc (.Compare a [.Eq] [b] pos) (sem2 opEq f g) := jt_cmp (r := rEqA) (fun _ X c => op_eq.or (op_eqD c.room.units)) (fun _ X c => eqG c) ha hb (nomark _)
theorem jt_ne (ha : JE p N k sc a f) (hb : JE p N k sc b g) : JT p N k sc (.Compare a [.NotEq] [b] pos) (sem2 opNe f g) := jt_cmp (r := rNeA) (fun _ X c => op_ne.or (op_neD c.room.units)) (fun _ X c => neG c) ha hb (nomark _)
theorem jt_is (ha : JE p N k sc a f) (hb : JE p N k sc b g) : JT p N k sc (.Compare a [.Is] [b] pos) (sem2 opIs f g) := jt_cmp (r := fun _ => _) (fun _ X c => op_isN) (fun _ X c => isG) ha hb (nomark _)
theorem jt_isnot (ha : JE p N k sc a f) (hb : JE p N k sc b g) : JT p N k sc (.Compare a [.IsNot] [b] pos) (sem2 opIsNot f g) := jt_cmp (r := fun _ => _) (fun _ X c => op_notN) (fun _ X c => isNotG) ha hb (nomark _)

/-! ### in -/
def rInS : R2 := fun x y H Q => ∃ (c : Nat) (z : Str), x = .str ⟨#[c]⟩ ∧ y = .str z ∧ Q (.bl (decide (c ∈ z.cps.toList))) H
def rInAll (X : Cx) : R2 := fun x y H Q => (∃ (c : Nat) (z : Str), x = .str ⟨#[c]⟩ ∧ y = .str z ∧ Q (.bl (decide (c ∈ z.cps.toList))) H) ∨ rInA X.K false x y H Q
def rNotInAll (X : Cx) : R2 := fun x y H Q => (∃ (c : Nat) (z : Str), x = .str ⟨#[c]⟩ ∧ y = .str z ∧ Q (.bl (!decide (c ∈ z.cps.toList))) H) ∨ rInA X.K true x y H Q
theorem one_sign {a : Str} (h : a.length = 1) : a = ⟨#[a.cps.getD 0 0]⟩ := by
  obtain ⟨⟨l⟩⟩ := a
  have h : l.length = 1 := h
  cases l with
  | nil => simp at h
  | cons x l =>
    cases l with
    | nil => simp
    | cons y l => simp at h
theorem inD_rel {W : WX} {X : Cx} (c : COk p N k sc W X) {F : Hp} {α : List Addr} {S : Sto} {H : Hp} {v w : V} {d e : D} {r : Bool} (s : StOk p F α S H) (r1 : Rp p F α v d) (r2 : Rp p F α w e) (h : inD S d e = some r) :
    (∃ (c : Nat) (z : Str), v = .str ⟨#[c]⟩ ∧ w = .str z ∧ decide (c ∈ z.cps.toList) = r) ∨
      ∃ d ds, Dp X.K H v d ∧ (Dp X.K H w (.list ds) ∨ Dp X.K H w (.tuple ds)) ∧ SeqAt.shaped d = true ∧ SeqAt.shaped (.list ds) = true ∧ (ds.any fun z => PyData.eqv z d) = r := by
  unfold inD at h
  split at h
  · split at h
    · rename_i h1
      cases h
      cases r1; cases r2
      exact .inl ⟨_, _, congrArg V.str (one_sign h1), rfl, rfl⟩
    · cases h
  · split at h
    · cases h
    · rename_i xs hx
      split at h
      · rename_i x bs h1 h2
        split at h
        · rename_i hs
          cases h
          rw [Bool.and_eq_true] at hs
          obtain ⟨a, vs, rfl, h3, h4⟩ := s.seqOf r2 hx
          refine .inr ⟨x, bs, by rw [c.K]; exact s.dpS r1 h1, ?_, hs.1, hs.2, rfl⟩
          have ha := Rps.dp s xs vs bs h4 h2
          rw [c.K]
          rcases h3 with h3 | h3
          · exact .inl (.lst h3 ha)
          · exact .inr (.tup h3 ha)
        · cases h
      · cases h
theorem inG {W : WX} {X : Cx} (c : COk p N k sc W X) : OpG p opIn (rInAll X) := by
  intro F α S H v w d e Q E s r1 r2 q
  unfold opIn at q
  split at q
  · rename_i b hb
    rcases inD_rel c s r1 r2 hb with ⟨x, z, h1, h2, h3⟩ | ⟨x, y, h1, h2, h3, h4, h5⟩
    · exact .inl ⟨x, z, h1, h2, by rw [h3]; exact q.here s (.bl _)⟩
    · exact .inr ⟨x, y, h1, h2, h3, h4, by rw [h5]; exact q.here s (.bl _)⟩
  · exact q.elim
theorem notInG {W : WX} {X : Cx} (c : COk p N k sc W X) : OpG p opNotIn (rNotInAll X) := by
  intro F α S H v w d e Q E s r1 r2 q
  unfold opNotIn at q
  split at q
  · rename_i b hb
    rcases inD_rel c s r1 r2 hb with ⟨x, z, h1, h2, h3⟩ | ⟨x, y, h1, h2, h3, h4, h5⟩
    · exact .inl ⟨x, z, h1, h2, by rw [h3]; exact q.here s (.bl _)⟩
    · exact .inr ⟨x, y, h1, h2, h3, h4, by rw [h5]; exact q.here s (.bl _)⟩
  · exact q.elim
theorem COk.units65 {W : WX} {X : Cx} (c : COk p N k sc W X) : X.A.units + 65 < cLine := by have := c.room.un; omega
theorem je_in (ha : JE p N k sc a f) (hb : JE p N k sc b g) (hm : behindInMarks .In b = false := by rfl) : JE p N k sc (.Compare a [.In] [b] pos) (sem2 opIn f g) := je_cmp (r := rInAll) (fun _ X c => op_in_sign.or (op_inA c.units65)) (fun _ X c => inG c) ha hb hm
theorem je_notin (ha : JE p N k sc a f) (hb : JE p N k sc b g) (hm : behindInMarks .NotIn b = false := by rfl) : JE p N k sc (.Compare a [.NotIn] [b] pos) (sem2 opNotIn f g) := je_cmp (r := rNotInAll) (fun _ X c => op_notIn_sign.or (op_notInA c.units65)) (fun _ X c => notInG c) ha hb hm
theorem jt_in (ha : JE p N k sc a f) (hb : JE p N k sc b g) (hm : behindInMarks .In b = false := by rfl) : JT p N k sc (.Compare a [.In] [b] pos) (sem2 opIn f g) := jt_cmp (r := rInAll) (fun _ X c => op_in_sign.or (op_inA c.units65)) (fun _ X c => inG c) ha hb hm
theorem jt_notin (ha : JE p N k sc a f) (hb : JE p N k sc b g) (hm : behindInMarks .NotIn b = false := by rfl) : JT p N k sc (.Compare a [.NotIn] [b] pos) (sem2 opNotIn f g) := jt_cmp (r := rNotInAll) (fun _ X c => op_notIn_sign.or (op_notInA c.units65)) (fun _ X c => notInG c) ha hb hm

/-! ### arguments, displays -/
def semNil : SemA := fun _ S => .ok [] S
def semCons (f : Sem) (g : SemA) : SemA := fun ρ S => (f ρ S).bind fun x S1 => (g ρ S1).bind fun xs S2 => .ok (x :: xs) S2
theorem ja_nil : JA p N k sc [] semNil := fun W X c => PA.imp pa_nil fun σ H Q ⟨F, α, S, ρ, s, e, q⟩ => q [] H F α (Ext.refl F α) s .nil
theorem ja_cons {es : List Expr} {fa : SemA} (ha : JE p N k sc a f) (hr : JA p N k sc es fa) (hs : ∀ env, starEach (a :: es) env = (false, eval a env) :: starEach es env := by intro _; rfl) : JA p N k sc (a :: es) (semCons f fa) := fun W X cc => by
  refine PA.imp (pa_cons (ha W X cc) (hr W X cc) (hs _)) fun σ H Q hq => ?_
  obtain ⟨F, α, S, ρ, s, e, q⟩ := hq
  refine ⟨F, α, S, ρ, s, e, ?_⟩
  unfold semCons at q
  cases h1 : f ρ S with
  | no => rw [h1] at q; exact q.elim
  | ex x S' => rw [h1] at q; exact q
  | ok d S1 =>
    rw [h1] at q
    intro v H1 F1 α1 x1 s1 r1
    refine ⟨F1, α1, S1, ρ, s1, e.ext x1, ?_⟩
    have q : SatA p F α ((fa ρ S1).bind fun xs S2 => .ok (d :: xs) S2) Q fun c d H' => W c d σ H' := q
    have q := SatA.ext x1 q
    cases h2 : fa ρ S1 with
    | no => rw [h2] at q; exact q.elim
    | ex x S' => rw [h2] at q; exact q
    | ok ds S2 =>
      rw [h2] at q
      exact fun vs H2 F2 α2 x2 s2 r2 => q (v :: vs) H2 F2 α2 x2 s2 (.cons (Rp.ext x2 _ _ r1) r2)
def semTup (fa : SemA) : Sem := fun ρ S => (fa ρ S).bind fun ds S1 => if ds.length ≤ sizeLine then .ok (.tup ds) S1 else .no
def semLst (fa : SemA) : Sem := fun ρ S => (fa ρ S).bind fun ds S1 => if ds.length ≤ sizeLine then .ok (.lst ds) S1 else .no
/-- a list that is to be written later: an object of the store -/
def semLstO (fa : SemA) : Sem := fun ρ S => (fa ρ S).bind fun ds S1 => if ds.length ≤ sizeLine then .ok (.own S1.length) (S1 ++ [.lst ds]) else .no
theorem je_tup {es : List Expr} {fa : SemA} {x1 : Nat} (ha : JA p N k sc es fa) : JE p N k sc (.Tuple es x1 pos) (semTup fa) := fun W X cc => by
  refine PE.imp (pe_tup (ha W X cc)) fun σ H Q hq => ?_
  obtain ⟨F, α, S, ρ, s, e, q⟩ := LE.args hq
  refine ⟨F, α, S, ρ, s, e, q.imp (fun vs H1 ⟨F1, α1, S1, ds, s1, r1, q1⟩ => ?_) fun _ _ _ z => z⟩
  split at q1
  · rename_i hz
    exact ⟨by rw [r1.length]; exact hz, q1.tup s1 r1⟩
  · exact q1.elim
theorem je_lst {es : List Expr} {fa : SemA} (ha : JA p N k sc es fa) : JE p N k sc (.List es pos) (semLst fa) := fun W X cc => by
  refine PE.imp (pe_lst (ha W X cc)) fun σ H Q hq => ?_
  obtain ⟨F, α, S, ρ, s, e, q⟩ := LE.args hq
  refine ⟨F, α, S, ρ, s, e, q.imp (fun vs H1 ⟨F1, α1, S1, ds, s1, r1, q1⟩ => ?_) fun _ _ _ z => z⟩
  split at q1
  · rename_i hz
    exact ⟨by rw [r1.length]; exact hz, q1.lst s1 r1⟩
  · exact q1.elim
theorem je_lstO {es : List Expr} {fa : SemA} (ha : JA p N k sc es fa) : JE p N k sc (.List es pos) (semLstO fa) := fun W X cc => by
  refine PE.imp (pe_lst (ha W X cc)) fun σ H Q hq => ?_
  obtain ⟨F, α, S, ρ, s, e, q⟩ := LE.args hq
  refine ⟨F, α, S, ρ, s, e, q.imp (fun vs H1 ⟨F1, α1, S1, ds, s1, r1, q1⟩ => ?_) fun _ _ _ z => z⟩
  split at q1
  · rename_i hz
    exact ⟨by rw [r1.length]; exact hz, q1.own (u := .lst vs) s1 r1⟩
  · exact q1.elim

/-! ### subscripts -/
def opIx : D → D → Sto → R D
  | .str z, .int i, S => if z.length ≤ sizeLine then (match atI z.cps.toList i with
    | some c => .ok (.str ⟨#[c]⟩) S
    | none => .no) else .no
  | d, .int i, S => match seqOf S d with
    | some xs => (match atI xs i with
      | some x => .ok x S
      | none => .no)
    | none => .no
  | _, _, _ => .no
theorem Rps.atI {F : Hp} {α : List Addr} {vs : List V} {ds : List D} {i : Int} {d : D} (r : Rps p F α vs ds) (h : L2.atI ds i = some d) : ∃ v, L2.atI vs i = some v ∧ Rp p F α v d := by
  unfold L2.atI at h ⊢
  rw [r.length]
  cases e : ixN ds.length i with
  | none => rw [e] at h; cases h
  | some j =>
    rw [e] at h
    exact r.get h
theorem ixG {W : WX} {X : Cx} (c : COk p N k sc W X) : OpG p opIx (rIx X.K) := by
  intro F α S H v w d e Q E s r1 r2 q
  unfold opIx at q
  split at q
  · cases r1; cases r2
    split at q
    · rename_i hz
      split at q
      · rename_i x hx
        exact .inr (.inr ⟨_, _, _, rfl, rfl, hz, hx, q.here s (.str _)⟩)
      · exact q.elim
    · exact q.elim
  · cases r2
    split at q
    · rename_i xs hx
      split at q
      · rename_i x hi
        obtain ⟨a, vs, rfl, h3, h4⟩ := s.seqOf r1 hx
        obtain ⟨y, h5, h6⟩ := h4.atI hi
        rcases h3 with h3 | h3
        · exact .inl ⟨a, vs, _, y, rfl, rfl, by rw [c.K]; exact h3, h5, q.here s h6⟩
        · exact .inr (.inl ⟨a, vs, _, y, rfl, rfl, by rw [c.K]; exact h3, h5, q.here s h6⟩)
      · exact q.elim
    · exact q.elim
  · exact q.elim
theorem je_ix (ha : JE p N k sc a f) (hb : JE p N k sc b g) (hs : PlainIx b := by exact fun _ _ => rfl) : JE p N k sc (.Subscript a b pos) (sem2 opIx f g) := fun W X c => by
  refine PE.imp (pe_ix ix_seq (ha W X c) (hb W X c) hs) fun σ H Q h => ?_
  obtain ⟨F, α, S, ρ, s, e, q⟩ := LE.two h
  exact ⟨F, α, S, ρ, s, e, q.imp (fun v H1 h1 => by
    obtain ⟨F, α, S, ρ, s, e, q⟩ := h1
    exact ⟨F, α, S, ρ, s, e, q.imp (fun w H2 ⟨F, α, S, d, e, s, r1, r2, q⟩ => ixG c F α S H2 v w d e Q _ s r1 r2 q) fun _ _ _ z => z⟩) fun _ _ _ z => z⟩
end
end GB
/-! Slices. -/
namespace GB
open PySem L2
section
open PyProof.Rows HT
variable {prog : Program} {w : World} {A : Around} {E : Value → Shared → Prop} {s : Shared}
theorem sliceApplied_rev {sl : Addr} {vs : Value} {n : Nat} {Q : Int × Int × Nat → Shared → Prop} (hs : s.heap.IsSliceOf sl .none .none vs) (ps : IsPart vs (some (-1)))
    (h : Q ((n : Int) - 1, -1, n) s) : wpAny (model prog w) A (Builtin.Slice.sliceApplied (.ref sl) (pure (n : Int))) Q E s := by
  obtain ⟨os, hos, hcs, hds⟩ := id hs
  unfold Builtin.Slice.sliceApplied Builtin.Slice.sliceFields
  refine wpAny_bind (wpAny_bind (wpAny_field hos hds (x := .none) rfl (wpAny_bind (wpAny_field hos hds (x := .none) rfl (wpAny_bind (wpAny_field hos hds (x := vs) rfl (wpAny_pure ?_)))))))
  refine wpAny_bind (slicePart_ ps ?_)
  show wpAny _ _ (if ((-1 : Int) == 0) = true then _ else _) _ _ s
  rw [if_neg (by decide)]
  refine wpAny_bind (slicePart_none (wpAny_bind (slicePart_none (wpAny_bind (wpAny_pure ?_)))))
  show wpAny _ _ (match Builtin.Slice.sliceAdjust none none (-1) (n : Int) with | (lo, hi) => pure (lo, (-1 : Int), Builtin.Slice.slicePlaces lo hi (-1))) _ _ s
  have e1 : Builtin.Slice.sliceAdjust none none (-1) (n : Int) = ((n : Int) - 1, -1) := by
    unfold Builtin.Slice.sliceAdjust
    simp
  have e2 : Builtin.Slice.slicePlaces ((n : Int) - 1) (-1) (-1) = n := by
    unfold Builtin.Slice.slicePlaces
    have h1 : ¬ ((-1 : Int) > 0) := by decide
    simp only [h1, if_false]
    have e : (-(-1) : Int) = 1 := by decide
    rw [e, Int.ediv_one]
    split <;> omega
  rw [e1]
  show wpAny _ _ (pure ((n : Int) - 1, (-1 : Int), Builtin.Slice.slicePlaces ((n : Int) - 1) (-1) (-1))) _ _ s
  rw [e2]
  exact wpAny_pure h
theorem pick_rev (xs : Array Value) : ((List.range xs.size).filterMap fun (m : Nat) => xs[((xs.size : Int) - 1 + (m : Int) * (-1)).toNat]?).toArray = xs.toList.reverse.toArray := by
  congr 1
  have e : ∀ m ∈ List.range xs.size, xs[((xs.size : Int) - 1 + (m : Int) * (-1)).toNat]? = some (xs.toList.reverse.getD m .none) := fun m hm => by
    have hm : m < xs.size := List.mem_range.mp hm
    have : ((xs.size : Int) - 1 + (m : Int) * (-1)).toNat = xs.size - 1 - m := by omega
    rw [this, ← Array.getElem?_toList, List.getD_eq_getElem?_getD, List.getElem?_reverse (by simpa using hm), Array.length_toList]
    rw [List.getElem?_eq_getElem (by simp; omega)]
    rfl
  have : ∀ (l : List Nat) (f : Nat → Option Value) (g : Nat → Value), (∀ m ∈ l, f m = some (g m)) → l.filterMap f = l.map g := by
    intro l f g
    induction l with
    | nil => intro _; rfl
    | cons a l ih =>
      intro h
      rw [List.filterMap_cons, h a (List.mem_cons_self ..), List.map_cons, ih fun m hm => h m (List.mem_cons_of_mem _ hm)]
  rw [this _ _ _ e]
  apply List.ext_getElem?
  intro i
  by_cases hi : i < xs.size
  · rw [List.getElem?_map, List.getElem?_range hi]
    show some (xs.toList.reverse.getD i Value.none) = _
    rw [List.getD_eq_getElem?_getD, List.getElem?_eq_getElem (by simpa using hi)]
    rfl
  · rw [List.getElem?_eq_none (by simpa using hi), List.getElem?_eq_none (by simpa using hi)]
theorem getItem_tuple_rev {t sl : Addr} {items : Array Value} {vs : Value} {Q : Value → Shared → Prop} (ht : IsTup s.heap t items) (hs : s.heap.IsSliceOf sl .none .none vs) (ps : IsPart vs (some (-1)))
    (h : Q (.ref s.heap.objs.size) { s with heap := s.heap.push { cls := .type "tuple", data := .seq items.toList.reverse.toArray } })
    (hsz : items.size ≤ sizeLine) : wpAny (model prog w) A (getItem (.ref t) (.ref sl)) Q E s := by
  have htake : sizeOk (.seq items.toList.reverse.toArray) := by
    show items.toList.reverse.toArray.size ≤ sizeLine
    simpa using hsz
  obtain ⟨os, hos, hcs, hds⟩ := id hs
  have hTs : s.TypeIs (.ref sl) "slice" := ⟨os, hos, hcs⟩
  unfold getItem
  try with_reducible refine wpAny_holding ?_
  first | refine wpAny_bind (wpAny_pure ?_) | skip
  refine wpAny_bind (wpAny_sequenceKey ht.typeIs (by decide) ?_)
  refine wpAny_bind (wpAny_callSpecial?_slot (name := Str.ofString "__getitem__") ht.typeIs PyProof.Rows.slot_tuple_getitem
    (wpAny_call_entry PyProof.Rows.slot_tuple_getitem ht.typeIs entry_tuple_getitem ?_ (args_tuple_getitem _ _)))
  show wpAny _ _ (Builtin.Tuple.tupleItemsOf (.ref t) >>= _) _ _ s
  refine wpAny_bind (tupleItemsOf_ ht ?_)
  refine wpAny_bind (wpAny_typeOf hTs ?_)
  rw [if_pos (by decide)]
  refine wpAny_bind (sliceApplied_rev hs ps ?_)
  have hno : ¬ ((((items.size : Int) - 1) == 0 && (-1 : Int) == 1 && items.size == items.size) = true) := by
    have : ((-1 : Int) == 1) = false := by decide
    simp [this]
  show wpAny _ _ (if (((items.size : Int) - 1) == 0 && (-1 : Int) == 1 && items.size == items.size) = true then _ else _) _ _ s
  rw [if_neg hno, pick_rev]
  first
    | exact wpAny_bind (m := Builtin.Tuple.tupleExact _) (wpAny_newObj_type (wpAny_pure ⟨_, rfl, wpAny_pure h⟩) htake)
    | exact wpAny_bind (m := Builtin.Tuple.tupleExact _) (wpAny_newObj_type (wpAny_bind (wpAny_pure (wpAny_pure ⟨_, rfl, wpAny_pure h⟩))) htake)
    | exact wpAny_bind (wpAny_bind (m := Builtin.Tuple.tupleExact _) (wpAny_newObj_type (wpAny_pure (wpAny_pure ⟨_, rfl, wpAny_pure h⟩)) htake))
    | exact wpAny_bind (wpAny_bind (m := Builtin.Tuple.tupleExact _) (wpAny_newObj_type (wpAny_pure ⟨_, rfl, wpAny_pure h⟩) htake))
end
def strRev (x : Str) : Str := ⟨x.cps.toList.reverse.toArray⟩
theorem rev_made (x : Str) (t u : Tok) : sliceMade x t none none (some (-1, u)) = .str (strRev x) := by
  have h1 : ¬ (((((some ((-1 : Int), u)).map (·.1)).getD 1 == 1) && ((slicePicked x none none (some (-1, u))).length == x.length)) = true) := by
    have : ((((some ((-1 : Int), u)).map (·.1)).getD 1 == 1)) = false := rfl
    rw [this]; simp
  unfold sliceMade
  rw [if_neg h1]
  have h2 := PyProof.Rows.step_rev_list x u
  have h3 : (Txt.sliceBy x none none (-1, u)) = ⟨((slicePicked x none none (some (-1, u))).filterMap (x.cps[·]?)).toArray⟩ := by
    unfold Txt.sliceBy
    rw [if_neg h1]
  rw [← h3]
  congr 1
  unfold strRev
  generalize Txt.sliceBy x none none (-1, u) = y at h2
  obtain ⟨⟨l⟩⟩ := y
  have h2 : l = (List.range x.length).map fun k => x.cps.getD (x.length - 1 - k) 0 := h2
  rw [h2]
  congr 2
  apply List.ext_getElem?
  intro i
  have hx : x.length = x.cps.toList.length := by show x.cps.size = _; simp
  by_cases hi : i < x.length
  · rw [List.getElem?_map, List.getElem?_range hi, List.getElem?_reverse (by rw [← hx]; exact hi), ← hx]
    show some _ = _
    have hlt : x.length - 1 - i < x.cps.size := by show x.length - 1 - i < x.length; omega
    simp [Array.getD, hlt]
  · rw [List.getElem?_eq_none (by simpa using hi), List.getElem?_eq_none (by simpa [← hx] using hi)]
section
open PySem.Spec PyProof.Rows
variable {X : Cx}
def tRevA (K : PySem.W.Frag) (te : TE) : TE := fun σ H Q => te σ H fun x H1 => (∃ a xs, x = .ref a ∧ SqL K H1 a xs ∧ ∀ p, H1 p = none → Q (.ref p) (upd H1 p (.lst xs.reverse))) ∨
  (∃ a xs, x = .ref a ∧ SqT K H1 a xs ∧ ∀ p, H1 p = none → Q (.ref p) (upd H1 p (.tup xs.reverse))) ∨ ∃ z, x = .str z ∧ z.length ≤ sizeLine ∧ Q (.str (strRev z)) H1
theorem pe_revA {e : Expr} {te : TE} {k : Nat} {p1 p2 p3 pos : Pos} (he : PE X e te) : PE X (.Subscript e (.Slice none none (some (.UnaryOp .USub (.Constant (.int 1) k p1) p2)) p3) pos) (tRevA X.K te) := by
  refine ⟨fun pins s σ H Q I h => ?_⟩
  refine PyProof.Rows.Subscript_ (thn (he.run pins s σ H _ I h) fun v s1 ⟨x, H1, I1, r1, q1⟩ => ?_)
  have hst : PO X (some (.UnaryOp .USub (.Constant (.int 1) k p1) p2)) (tPart (tUn (rU fun i => .int (-i)) (tC (.int 1)))) := po_some (pe_un un_neg pe_int)
  refine wpAny_Slice (thn (po_none.run pins s1 σ H1 (fun o H2 => o = none ∧ H2 = H1) I1 ⟨rfl, rfl⟩) fun vl s2 ⟨l, H2, I2, pl, el, e2⟩ => ?_)
  subst el e2
  refine thn (po_none.run pins s2 σ H2 (fun o H3 => o = none ∧ H3 = H2) I2 ⟨rfl, rfl⟩) fun vu s3 ⟨u, H3, I3, pu, eu, e3⟩ => ?_
  subst eu e3
  refine thn (hst.run pins s3 σ H3 (fun o H4 => o = some (-1) ∧ H4 = H3) I3 ⟨1, rfl, -1, rfl, rfl, rfl⟩) fun vs s4 ⟨o, H4, I4, ps, eo, e4⟩ => ?_
  subst eo e4
  have I5 : Inv X pins σ H4 { s4 with heap := s4.heap.push { cls := .type "slice", data := .fields #[vl, vu, vs] } } := I4.kept (t' := s4.toks) fun b ob q => Heap.get?_push_of_some _ q
  have pl' := pl
  have pu' := pu
  cases pl
  cases pu
  rcases q1 with ⟨a, xs, ex, hx, q⟩ | ⟨a, xs, ex, hx, q⟩ | ⟨z, ex, hz, q⟩
  · subst ex
    cases r1
    obtain ⟨its, r, ht, hz⟩ := I5.list hx
    have hlen := r.length
    show wpAny (model X.prog X.w) X.A (subscriptTail e (.Slice none none (some (.UnaryOp .USub (.Constant (.int 1) k p1) p2)) p3) (.ref a) (.ref s4.heap.objs.size)) (EP X pins σ Q) X.xe { s4 with heap := s4.heap.push { cls := .type "slice", data := .fields #[.none, .none, vs] } }
    refine tail_any (ops := [.ref a, .ref s4.heap.objs.size]) ht.isList.typeIs (PySem.slot_list_getitem.lookup) ?_ (by with_unfolding_all rfl)
    refine wpAny_getItem_list_slice ht.isList (Heap.IsSliceOf.new _ .none .none vs) pl' pu' ps (by decide) ?_ (by rw [List.size_toArray]; omega)
    rw [PySem.W.krv_pick]
    refine ⟨.ref _, _, I5.laid (t' := s4.toks) (o := .lst xs.reverse) (fun b ob q => Heap.get?_push_of_some _ q) (Nat.le_refl _) ?_, rfl, q _ (I5.hok.fresh (Nat.le_refl _))⟩
    exact ⟨by rw [List.length_reverse]; exact hz, _, 0, r.reverse, Heap.get?_push_size _ rfl⟩
  · subst ex
    cases r1
    obtain ⟨its, r, ht, hz⟩ := I5.tuple hx
    have hlen := r.length
    show wpAny (model X.prog X.w) X.A (subscriptTail e (.Slice none none (some (.UnaryOp .USub (.Constant (.int 1) k p1) p2)) p3) (.ref a) (.ref s4.heap.objs.size)) (EP X pins σ Q) X.xe { s4 with heap := s4.heap.push { cls := .type "slice", data := .fields #[.none, .none, vs] } }
    refine tail_any (ops := [.ref a, .ref s4.heap.objs.size]) ht.typeIs (PyProof.Rows.slot_tuple_getitem.lookup) ?_ (by with_unfolding_all rfl)
    refine getItem_tuple_rev ht (Heap.IsSliceOf.new _ .none .none vs) ps ?_ (by rw [List.size_toArray]; omega)
    refine ⟨.ref _, _, I5.laid (t' := s4.toks) (o := .tup xs.reverse) (fun b ob q => Heap.get?_push_of_some _ q) (Nat.le_refl _) ?_, rfl, q _ (I5.hok.fresh (Nat.le_refl _))⟩
    exact ⟨by rw [List.length_reverse]; exact hz, _, by simpa using r.reverse, IsTup.new _ _⟩
  · subst ex
    obtain ⟨t, rfl⟩ := r1
    show wpAny (model X.prog X.w) X.A (subscriptTail e (.Slice none none (some (.UnaryOp .USub (.Constant (.int 1) k p1) p2)) p3) (.str z t) (.ref s4.heap.objs.size)) (EP X pins σ Q) X.xe { s4 with heap := s4.heap.push { cls := .type "slice", data := .fields #[.none, .none, vs] } }
    refine tail_any (ops := [.str z t, .ref s4.heap.objs.size]) (typeIs_str _ _ _) (F.slot_str_getitem.lookup) ?_ (by with_unfolding_all rfl)
    cases ps with
    | int i u =>
      refine wpAny_getItem_str_slice (l := none) (u := none) (st := some (-1, u)) ⟨_, Heap.get?_push_size _ rfl, rfl, rfl⟩ rfl ?_
      rw [rev_made]
      refine ⟨?_, .str (strRev z), H4, I5.tok _, ⟨_, rfl⟩, q⟩
      show (strRev z).length ≤ sizeLine
      show (z.cps.toList.reverse.toArray).size ≤ sizeLine
      have hz2 : z.cps.size ≤ sizeLine := hz
      simpa using hz2
end
section
variable {p : Pc} {N : List Str} {k : Nat} {sc : Sco} {a b c : Expr} {f g h : Sem} {pos : Pos}
def opRev : D → Sto → R D
  | .str z, S => if z.length ≤ sizeLine then .ok (.str (strRev z)) S else .no
  | .tup xs, S => .ok (.tup xs.reverse) S
  | d, S => match lstOf S d with
    | some xs => .ok (.lst xs.reverse) S
    | none => .no
theorem je_rev {k1 : Nat} {p1 p2 p3 : Pos} (ha : JE p N k sc a f) : JE p N k sc (.Subscript a (.Slice none none (some (.UnaryOp .USub (.Constant (.int 1) k1 p1) p2)) p3) pos) (sem1 opRev f) := fun W X cc => by
  refine PE.imp (pe_revA (ha W X cc)) fun σ H Q hq => ?_
  obtain ⟨F, α, S, ρ, s, e, q⟩ := LE.one hq
  refine ⟨F, α, S, ρ, s, e, q.imp (fun v H1 ⟨F1, α1, S1, d, s1, r1, q1⟩ => ?_) fun _ _ _ z => z⟩
  unfold opRev at q1
  split at q1
  · cases r1
    split at q1
    · rename_i hz
      exact .inr (.inr ⟨_, rfl, hz, q1.here s1 (.str _)⟩)
    · exact q1.elim
  · cases r1 with
    | tup h1 h2 => exact .inr (.inl ⟨_, _, rfl, by rw [cc.K]; exact s1.sqt h1, q1.tup s1 h2.reverse⟩)
  · split at q1
    · rename_i xs hx
      obtain ⟨a, vs, rfl, h3, h4⟩ := s1.lstOf r1 hx
      exact .inl ⟨_, _, rfl, by rw [cc.K]; exact h3, q1.lst s1 h4.reverse⟩
    · exact q1.elim
/-! ### lo:hi -/
abbrev SemO := PySem.Str → Nat
inductive OEx where
  | no | e (f : Sem)
def OEx.run : OEx → Env → Sto → (Option Int → Sto → R D) → R D
  | .no, _, S, k => k none S
  | .e f, ρ, S, k => (f ρ S).bind fun d S1 => match d with
    | .int i => k (some i) S1
    | _ => .no
def cutD (xs : List D) (lo hi : Option Int) : List D := (xs.drop (HT.sIx xs.length 0 lo)).take (HT.sIx xs.length xs.length hi - HT.sIx xs.length 0 lo)
def opSl (d : D) (lo hi : Option Int) (S : Sto) : R D := match d with
  | .str z => if z.length ≤ sizeLine then .ok (.str (cutS z lo hi)) S else .no
  | .tup xs => .ok (.tup (cutD xs lo hi)) S
  | d => match lstOf S d with
    | some xs => .ok (.lst (cutD xs lo hi)) S
    | none => .no
def semSl (f : Sem) (lo hi : OEx) : Sem := fun ρ S => (f ρ S).bind fun d S1 => lo.run ρ S1 fun l S2 => hi.run ρ S2 fun h S3 => opSl d l h S3
def JO (p : Pc) (N : List Str) (k : Nat) (sc : Sco) (e : Option Expr) (f : OEx) : Prop := ∀ W X, COk p N k sc W X → ∃ t, PO X e t ∧ ∀ σ H (Q : Option Int → Hp → Prop) F α S ρ E kk QQ, StOk p F α S H → EnvOk p F α σ ρ → (∀ c d H', E c d H' → W c d σ H') → Sat p F α (f.run ρ S kk) QQ E →
  (∀ F1 α1 S1 o H1, Ext F α F1 α1 → StOk p F1 α1 S1 H1 → Sat p F1 α1 (kk o S1) QQ E → Q o H1) → t σ H Q
theorem jo_no : JO p N k sc none .no := fun W X c => ⟨_, po_none, fun σ H Q F α S ρ E kk QQ s e hE q h => h F α S none H (Ext.refl F α) s q⟩
theorem jo_e (ha : JE p N k sc a f) : JO p N k sc (some a) (.e f) := fun W X c => ⟨_, po_some (ha W X c), fun σ H Q F α S ρ E kk QQ s e hE q h => by
  refine ⟨F, α, S, ρ, s, e, (Sat.bind q).imp (fun v H1 ⟨F1, α1, S1, d, x, s1, r1, q1⟩ => ?_) hE⟩
  split at q1
  · cases r1
    exact ⟨_, rfl, h F1 α1 S1 _ H1 x s1 q1⟩
  · exact q1.elim⟩
def rSlAll (K : PySem.W.Frag) : V → Option Int → Option Int → Hp → VK → Prop := fun x lo hi H Q => rSlS x lo hi H Q ∨ rSlA K x lo hi H Q ∨ rSlL K x lo hi H Q
theorem sl_all {X : Cx} : SlR X (rSlAll X.K) := sl_str.or (sl_tupA.or sl_list)
theorem slG {W : WX} {X : Cx} (cc : COk p N k sc W X) {F : Hp} {α : List Addr} {S : Sto} {H : Hp} {v : V} {d : D} {l h : Option Int} {Q : VK} {E : XK} (s : StOk p F α S H) (r : Rp p F α v d) (q : Sat p F α (opSl d l h S) Q E) : rSlAll X.K v l h H Q := by
  unfold opSl at q
  split at q
  · cases r
    split at q
    · rename_i hz
      exact .inl ⟨_, rfl, hz, q.here s (.str _)⟩
    · exact q.elim
  · cases r with
    | tup h1 h2 =>
      refine .inr (.inl ⟨_, _, rfl, by rw [cc.K]; exact s.sqt h1, fun hw => ?_, fun hw => ?_⟩)
      · refine q.here s (.tup h1 ?_)
        have : ∀ ds : List D, HT.sIx ds.length 0 l = 0 ∧ HT.sIx ds.length ds.length h = ds.length → cutD ds l h = ds := fun ds hd => by
          unfold cutD
          rw [hd.1, hd.2]
          simp
        rw [this _ (by rw [← h2.length]; exact hw)]
        exact h2
      · refine q.tup s ?_
        unfold cutV cutD
        rw [h2.length]
        exact (h2.drop _).take _
  · split at q
    · rename_i xs hx
      obtain ⟨a, vs, rfl, h3, h4⟩ := s.lstOf r hx
      refine .inr (.inr ⟨_, _, rfl, by rw [cc.K]; exact h3, q.lst s ?_⟩)
      unfold cutV cutD
      rw [h4.length]
      exact (h4.drop _).take _
    · exact q.elim
theorem je_sl {lo hi : Option Expr} {l u : OEx} {p2 : Pos} (ha : JE p N k sc a f) (hl : JO p N k sc lo l) (hu : JO p N k sc hi u) : JE p N k sc (.Subscript a (.Slice lo hi none p2) pos) (semSl f l u) := fun W X cc => by
  obtain ⟨tl, pl, gl⟩ := hl W X cc
  obtain ⟨tu, pu, gu⟩ := hu W X cc
  refine PE.imp (pe_slice sl_all (ha W X cc) pl pu) fun σ H Q hq => ?_
  obtain ⟨F, α, S, ρ, s, e, q⟩ := hq
  refine ⟨F, α, S, ρ, s, e, (Sat.bind q).imp (fun v H1 ⟨F1, α1, S1, d, x, s1, r1, q1⟩ => ?_) fun _ _ _ z => z⟩
  refine gl σ H1 _ F1 α1 S1 ρ _ _ _ s1 (e.ext x) (fun _ _ _ z => z) q1 fun F2 α2 S2 o H2 x2 s2 q2 => ?_
  refine gu σ H2 _ F2 α2 S2 ρ _ _ _ s2 ((e.ext x).ext x2) (fun _ _ _ z => z) q2 fun F3 α3 S3 o3 H3 x3 s3 q3 => ?_
  exact slG cc s3 (Rp.ext (x2.trans x3) _ _ r1) q3
end
end GB
/-! Calls of the text's own defs and of built-ins. -/
namespace GB
open PySem L2
def semCall (op : List D → Sto → R D) (fa : SemA) : Sem := fun ρ S => (fa ρ S).bind op
/-- a def's promise: it hands back what g says -/
def spG (p : Pc) (n : Nat) (g : List D → Sto → R D) : Sp := fun vs H Q E => ∃ F α S ds, StOk p F α S H ∧ Rps p F α vs ds ∧ ds.length = n ∧ Sat p F α (g ds S) Q E
structure Fn (p : Pc) (x : Str) (kf n : Nat) (g : List D → Sto → R D) : Prop where
  ex : ∃ f fd ps, p.mg x = some (.ref f) ∧ PySem.W.keepIn p.K (.ref f) = true ∧ Binds p.K fd ps [] ∧ ps.length = n ∧ FnOk p.P p.w p.K p.mg p.base (L2.CX p.P p.w) kf f fd ps (spG p n g)
/-- a rule of a built-in gives what op says -/
def ArG (p : Pc) (op : List D → Sto → R D) (r : List V → Hp → VK → Prop) : Prop := ∀ (F : Hp) (α : List Addr) (S : Sto) (H : Hp) (vs : List V) (ds : List D) (Q : VK) (E : XK),
  StOk p F α S H → Rps p F α vs ds → Sat p F α (op ds S) Q E → r vs H Q
section
variable {p : Pc} {N : List Str} {k : Nat} {sc : Sco} {a b c e : Expr} {es : List Expr} {f g h : Sem} {fa : SemA} {pos pp : Pos}
theorem je_call {x : Str} {kf n : Nat} {g : List D → Sto → R D} (G : Fn p x kf n g) (ha : JA p N k sc (e :: es) fa) (hk : kf ≤ k := by decide) (hg : sc.names.lookup x = some .globalImplicit := by rfl) (hd : (x == ("__debug__" : Str)) = false := by decide)
    (he : ∀ env, starEach (e :: es) env = (false, eval e env) :: starEach es env := by intro _; rfl) (hpl : ∀ env, (backTo pos (starEach es env)).any (·.1) = false := by intro _; rfl) (hn : (e :: es).length = n := by rfl) :
    JE p N k sc (.Call (.Name x pp) (e :: es) [] pos) (semCall (fun ds S => if ds.length = n then g ds S else .no) fa) := fun W X c => by
  obtain ⟨ff, fd, ps, h1, h2, h3, h4, h5⟩ := G.ex
  have pa := ha W X c
  have F5 : FnOk X.prog X.w X.K X.mg X.base (L2.CX X.prog X.w) kf ff fd ps (spG p n g) := by rw [c.prog, c.w, c.K, c.mg, c.base]; exact h5
  refine PE.imp (pe_callS (E := WE W) F5 (c.room.mono hk) (by show X.env.scope.names.lookup x = _; rw [c.hsc]; exact hg) (by rw [c.mg]; exact h1) (by rw [c.K]; exact h2) (by rw [c.K]; exact h3) (fun σ => passAt c.tk σ) pa hd (he _) (hpl _)) fun σ H Q hq => ?_
  obtain ⟨F, α, S, ρ, s, e, q⟩ := LE.args hq
  refine ⟨F, α, S, ρ, s, e, q.imp (fun vs H1 ⟨F1, α1, S1, ds, s1, r1, q1⟩ => ?_) fun _ _ _ z => z⟩
  split at q1
  · rename_i hl
    exact ⟨F1, α1, S1, ds, s1, r1, hl, q1⟩
  · exact q1.elim
theorem je_callB {x : Str} {id : String} {op : List D → Sto → R D} {r : Cx → List V → Hp → VK → Prop} (hc : ∀ W X, COk p N k sc W X → CallR X (.builtin id) (r X)) (hr : ∀ W X, COk p N k sc W X → ArG p op (r X)) (hm : p.mg x = none) (hv : bootBuiltins x = some (.builtin id)) (hn : x ≠ "__name__") (hd : (x == ("__debug__" : Str)) = false) (ha : JA p N k sc (e :: es) fa)
    (hg : sc.names.lookup x = some .globalImplicit) (he : ∀ env, starEach (e :: es) env = (false, eval e env) :: starEach es env) (hpl : ∀ env, (backTo pos (starEach es env)).any (·.1) = false) :
    JE p N k sc (.Call (.Name x pp) (e :: es) [] pos) (semCall op fa) := fun W X c => by
  refine PE.imp (pe_callB (hc W X c) (by show X.env.scope.names.lookup x = _; rw [c.hsc]; exact hg) (by rw [c.mg]; exact hm) hv (ha W X c) hn hd (he _) (hpl _)) fun σ H Q hq => ?_
  obtain ⟨F, α, S, ρ, s, e, q⟩ := LE.args hq
  exact ⟨F, α, S, ρ, s, e, q.imp (fun vs H1 ⟨F1, α1, S1, ds, s1, r1, q1⟩ => hr W X c F1 α1 S1 H1 vs ds Q _ s1 r1 q1) fun _ _ _ z => z⟩
theorem je_callT {x : Str} {T : String} {op : List D → Sto → R D} {r : Cx → List V → Hp → VK → Prop} (hc : ∀ W X, COk p N k sc W X → CallR X (.type T) (r X)) (hr : ∀ W X, COk p N k sc W X → ArG p op (r X)) (hm : p.mg x = none) (hv : bootBuiltins x = some (.type T)) (hn : x ≠ "__name__") (hd : (x == ("__debug__" : Str)) = false) (ha : JA p N k sc (e :: es) fa)
    (hg : sc.names.lookup x = some .globalImplicit) (he : ∀ env, starEach (e :: es) env = (false, eval e env) :: starEach es env) (hpl : ∀ env, (backTo pos (starEach es env)).any (·.1) = false) :
    JE p N k sc (.Call (.Name x pp) (e :: es) [] pos) (semCall op fa) := fun W X c => by
  refine PE.imp (pe_callTy (hc W X c) (by show X.env.scope.names.lookup x = _; rw [c.hsc]; exact hg) (by rw [c.mg]; exact hm) hv (ha W X c) hn hd (he _) (hpl _)) fun σ H Q hq => ?_
  obtain ⟨F, α, S, ρ, s, e, q⟩ := LE.args hq
  exact ⟨F, α, S, ρ, s, e, q.imp (fun vs H1 ⟨F1, α1, S1, ds, s1, r1, q1⟩ => hr W X c F1 α1 S1 H1 vs ds Q _ s1 r1 q1) fun _ _ _ z => z⟩

/-! ### the built-ins over data -/
def bLen : List D → Sto → R D
  | [.str z], S => if z.length ≤ sizeLine then .ok (.int z.length) S else .no
  | [d], S => match seqOf S d with
    | some xs => .ok (.int xs.length) S
    | none => .no
  | _, _ => .no
def bInt : List D → Sto → R D
  | [.int i], S => .ok (.int i) S
  | [.str z], S => match PySem.intText? z with
    | some n => if z.length ≤ 640 then .ok (.int n) S else .no
    | none => .no
  | _, _ => .no
def bStr : List D → Sto → R D
  | [.int i], S => if i.natAbs.log2 < 1920 then .ok (.str (toString i)) S else .no
  | [.str z], S => .ok (.str z) S
  | _, _ => .no
def bAbs : List D → Sto → R D
  | [.int i], S => .ok (.int (if i < 0 then -i else i)) S
  | _, _ => .no
def bMax : List D → Sto → R D
  | [.int i, .int j], S => .ok (.int (if j > i then j else i)) S
  | _, _ => .no
/-- the ints of a row -/
def intsOf : List D → Option (List Int)
  | [] => some []
  | .int i :: r => (intsOf r).map (i :: ·)
  | _ => none
def blsOf : List D → Option (List Bool)
  | [] => some []
  | .bl i :: r => (blsOf r).map (i :: ·)
  | _ => none
def strsOf : List D → Option (List Str)
  | [] => some []
  | .str i :: r => (strsOf r).map (i :: ·)
  | _ => none
def leastOf : List Int → Int
  | [] => 0
  | [a] => a
  | a :: b :: r => min a (leastOf (b :: r))
def bMin : List D → Sto → R D
  | [.int i, .int j], S => .ok (.int (if j < i then j else i)) S
  | [d], S => match lstOf S d with
    | some xs => (match intsOf xs with
      | some ns => if 0 < ns.length then .ok (.int (leastOf ns)) S else .no
      | none => .no)
    | none => .no
  | _, _ => .no
def bTuple : List D → Sto → R D
  | [.tup xs], S => .ok (.tup xs) S
  | [d], S => match lstOf S d with
    | some xs => .ok (.tup xs) S
    | none => .no
  | _, _ => .no
/-- list of a list, a tuple; of a text: its signs -/
def bList : List D → Sto → R D
  | [.str z], S => if z.length ≤ sizeLine then .ok (.lst (z.cps.toList.map fun c => .str ⟨#[c]⟩)) S else .no
  | [d], S => match seqOf S d with
    | some xs => .ok (.lst xs) S
    | none => .no
  | _, _ => .no
/-- .. as an object of the store -/
def bListO : List D → Sto → R D
  | [.str z], S => if z.length ≤ sizeLine then .ok (.own S.length) (S ++ [.lst (z.cps.toList.map fun c => .str ⟨#[c]⟩)]) else .no
  | [d], S => match seqOf S d with
    | some xs => .ok (.own S.length) (S ++ [.lst xs])
    | none => .no
  | _, _ => .no
def bAll : List D → Sto → R D
  | [d], S => match (lstOf S d).bind blsOf with
    | some bs => .ok (.bl (bs.all id)) S
    | none => .no
  | _, _ => .no
def bAny : List D → Sto → R D
  | [d], S => match (lstOf S d).bind blsOf with
    | some bs => .ok (.bl (bs.any id)) S
    | none => .no
  | _, _ => .no
def tyD (S : Sto) : D → Option BT
  | .non => some .none | .bl _ => some .bool | .int _ => some .int | .str _ => some .str | .tup _ => some .tuple | .lst _ => some .list
  | .own k => match S[k]? with
    | some (.lst _) => some .list | some (.dK _) => some .dict | some (.dT _) => some .dict
    | _ => none
  | _ => none
def subTy : BT → BT → Bool
  | .bool, .int => true
  | a, b => decide (a = b)
def bIsi : List D → Sto → R D
  | [d, .ty n], S => match tyD S d with
    | some t => .ok (.bl (subTy t n)) S
    | none => .no
  | _, _ => .no
theorem intsOf_map : ∀ {xs : List D} {ns : List Int}, intsOf xs = some ns → xs = ns.map .int
  | [], ns, h => by cases h; rfl
  | d :: xs, ns, h => by
    cases d <;> try (simp [intsOf] at h; done)
    rename_i i
    simp only [intsOf] at h
    cases e : intsOf xs with
    | none => rw [e] at h; cases h
    | some ms => rw [e] at h; cases h; rw [intsOf_map e] <;> rfl
theorem blsOf_map : ∀ {xs : List D} {ns : List Bool}, blsOf xs = some ns → xs = ns.map .bl
  | [], ns, h => by cases h; rfl
  | d :: xs, ns, h => by
    cases d <;> try (simp [blsOf] at h; done)
    rename_i i
    simp only [blsOf] at h
    cases e : blsOf xs with
    | none => rw [e] at h; cases h
    | some ms => rw [e] at h; cases h; rw [blsOf_map e] <;> rfl
theorem strsOf_map : ∀ {xs : List D} {ns : List Str}, strsOf xs = some ns → xs = ns.map .str
  | [], ns, h => by cases h; rfl
  | d :: xs, ns, h => by
    cases d <;> try (simp [strsOf] at h; done)
    rename_i i
    simp only [strsOf] at h
    cases e : strsOf xs with
    | none => rw [e] at h; cases h
    | some ms => rw [e] at h; cases h; rw [strsOf_map e] <;> rfl
theorem least_mem : ∀ (ns : List Int), 0 < ns.length → leastOf ns ∈ ns ∧ ∀ y ∈ ns, leastOf ns ≤ y
  | [], h => absurd h (by simp)
  | [a], _ => ⟨by simp [leastOf], fun y hy => by simp at hy; subst hy; exact Int.le_refl _⟩
  | a :: b :: r, _ => by
    obtain ⟨h1, h2⟩ := least_mem (b :: r) (by simp)
    constructor
    · show min a (leastOf (b :: r)) ∈ a :: b :: r
      rcases Int.le_total a (leastOf (b :: r)) with h | h
      · rw [Int.min_eq_left h]; exact List.mem_cons_self ..
      · rw [Int.min_eq_right h]; exact List.mem_cons_of_mem _ h1
    · intro y hy
      show min a (leastOf (b :: r)) ≤ y
      rcases List.mem_cons.mp hy with rfl | hy
      · exact Int.min_le_left _ _
      · exact Int.le_trans (Int.min_le_right _ _) (h2 y hy)
section
variable {W : WX} {X : Cx}
def rLenA (X : Cx) : List V → Hp → VK → Prop := fun xs H Q => (∃ p ys, xs = [.ref p] ∧ (SqL X.K H p ys ∨ SqT X.K H p ys) ∧ Q (.int ys.length) H) ∨ ∃ z, xs = [.str z] ∧ z.length ≤ sizeLine ∧ Q (.int z.length) H
theorem one_of {F : Hp} {α : List Addr} {vs : List V} {d : D} (r : Rps p F α vs [d]) : ∃ v, vs = [v] ∧ Rp p F α v d := by
  cases r with
  | cons h t => cases t; exact ⟨_, rfl, h⟩
theorem two_of {F : Hp} {α : List Addr} {vs : List V} {d e : D} (r : Rps p F α vs [d, e]) : ∃ v w, vs = [v, w] ∧ Rp p F α v d ∧ Rp p F α w e := by
  cases r with
  | cons h t => cases t with
    | cons h2 t => cases t; exact ⟨_, _, rfl, h, h2⟩
theorem lenG (c : COk p N k sc W X) : ArG p bLen (rLenA X) := by
  intro F α S H vs ds Q E s r q
  unfold bLen at q
  split at q
  · obtain ⟨v, rfl, r1⟩ := one_of r
    cases r1
    split at q
    · rename_i hz
      exact .inr ⟨_, rfl, hz, q.here s (.int _)⟩
    · exact q.elim
  · obtain ⟨v, rfl, r1⟩ := one_of r
    split at q
    · rename_i xs hx
      obtain ⟨a, ws, rfl, h3, h4⟩ := s.seqOf r1 hx
      exact .inl ⟨_, _, rfl, by rw [c.K]; exact h3, by rw [h4.length]; exact q.here s (.int _)⟩
    · exact q.elim
  · exact q.elim
theorem je_len (hm : p.mg "len" = none) (ha : JA p N k sc (e :: es) fa) (hg : sc.names.lookup ("len" : Str) = some .globalImplicit := by rfl) (he : ∀ env, starEach (e :: es) env = (false, eval e env) :: starEach es env := by intro _; rfl) (hpl : ∀ env, (backTo pos (starEach es env)).any (·.1) = false := by intro _; rfl) :
    JE p N k sc (.Call (.Name "len" pp) (e :: es) [] pos) (semCall bLen fa) := je_callB (r := rLenA) (fun _ X _ => call_len_seq.or call_len_str) (fun _ X c => lenG c) hm boot_len (by decide) (by decide) ha hg he hpl
def rIntA : List V → Hp → VK → Prop := fun xs H Q => ((∃ i, xs = [.int i] ∧ Q (.int i) H) ∨ ∃ k, xs = [.bl k] ∧ Q (.int (if k then 1 else 0)) H) ∨ ∃ a n, xs = [.str a] ∧ PySem.intText? a = some n ∧ a.length ≤ 640 ∧ Q (.int n) H
theorem je_int1 (hm : p.mg "int" = none) (ha : JA p N k sc (e :: es) fa) (hg : sc.names.lookup ("int" : Str) = some .globalImplicit := by rfl) (he : ∀ env, starEach (e :: es) env = (false, eval e env) :: starEach es env := by intro _; rfl) (hpl : ∀ env, (backTo pos (starEach es env)).any (·.1) = false := by intro _; rfl) :
    JE p N k sc (.Call (.Name "int" pp) (e :: es) [] pos) (semCall bInt fa) := je_callT (T := "int") (r := fun _ => rIntA) (fun _ X _ => call_int1.or call_int_str) (fun _ X c => by
  intro F α S H vs ds Q E s r q
  unfold bInt at q
  split at q
  · obtain ⟨v, rfl, r1⟩ := one_of r
    cases r1
    exact .inl (.inl ⟨_, rfl, q.here s (.int _)⟩)
  · obtain ⟨v, rfl, r1⟩ := one_of r
    cases r1
    split at q
    · rename_i n hn
      split at q
      · rename_i hz
        exact .inr ⟨_, n, rfl, hn, hz, q.here s (.int _)⟩
      · exact q.elim
    · exact q.elim
  · exact q.elim) hm (by decide +kernel) (by decide) (by decide) ha hg he hpl
def rStrA : List V → Hp → VK → Prop := fun xs H Q => (∃ i, xs = [.int i] ∧ i.natAbs.log2 < 1920 ∧ Q (.str (toString i)) H) ∨ ∃ a, xs = [.str a] ∧ Q (.str a) H
theorem call_str_strB {X : Cx} : CallR X (.type "str") (fun xs H Q => ∃ a, xs = [.str a] ∧ Q (.str a) H) := by
  intro pins s σ H xs us Q I r h
  obtain ⟨a, rfl, q⟩ := h
  obtain ⟨u, rfl, t, rfl⟩ := vals1 r
  exact PySem.P.str_of_str ⟨.str a, H, I, ⟨_, rfl⟩, q⟩
theorem je_str1 (hm : p.mg "str" = none) (ha : JA p N k sc (e :: es) fa) (hg : sc.names.lookup ("str" : Str) = some .globalImplicit := by rfl) (he : ∀ env, starEach (e :: es) env = (false, eval e env) :: starEach es env := by intro _; rfl) (hpl : ∀ env, (backTo pos (starEach es env)).any (·.1) = false := by intro _; rfl) :
    JE p N k sc (.Call (.Name "str" pp) (e :: es) [] pos) (semCall bStr fa) := je_callT (T := "str") (r := fun _ => rStrA) (fun _ X _ => call_str_int.or call_str_strB) (fun _ X c => by
  intro F α S H vs ds Q E s r q
  unfold bStr at q
  split at q
  · obtain ⟨v, rfl, r1⟩ := one_of r
    cases r1
    split at q
    · rename_i hz
      exact .inl ⟨_, rfl, hz, q.here s (.str _)⟩
    · exact q.elim
  · obtain ⟨v, rfl, r1⟩ := one_of r
    cases r1
    exact .inr ⟨_, rfl, q.here s (.str _)⟩
  · exact q.elim) hm (by decide +kernel) (by decide) (by decide) ha hg he hpl
theorem je_abs (hm : p.mg "abs" = none) (ha : JA p N k sc (e :: es) fa) (hg : sc.names.lookup ("abs" : Str) = some .globalImplicit := by rfl) (he : ∀ env, starEach (e :: es) env = (false, eval e env) :: starEach es env := by intro _; rfl) (hpl : ∀ env, (backTo pos (starEach es env)).any (·.1) = false := by intro _; rfl) :
    JE p N k sc (.Call (.Name "abs" pp) (e :: es) [] pos) (semCall bAbs fa) := je_callB (id := "abs") (r := fun _ => _) (fun _ X _ => call_abs) (fun _ X c => by
  intro F α S H vs ds Q E s r q
  unfold bAbs at q
  split at q
  · obtain ⟨v, rfl, r1⟩ := one_of r
    cases r1
    exact ⟨_, rfl, q.here s (.int _)⟩
  · exact q.elim) hm (by decide +kernel) (by decide) (by decide) ha hg he hpl
theorem je_max (hm : p.mg "max" = none) (ha : JA p N k sc (e :: es) fa) (hg : sc.names.lookup ("max" : Str) = some .globalImplicit := by rfl) (he : ∀ env, starEach (e :: es) env = (false, eval e env) :: starEach es env := by intro _; rfl) (hpl : ∀ env, (backTo pos (starEach es env)).any (·.1) = false := by intro _; rfl) :
    JE p N k sc (.Call (.Name "max" pp) (e :: es) [] pos) (semCall bMax fa) := je_callB (id := "max") (r := fun _ => _) (fun _ X c => call_max2 c.calm) (fun _ X c => by
  intro F α S H vs ds Q E s r q
  unfold bMax at q
  split at q
  · obtain ⟨v, w, rfl, r1, r2⟩ := two_of r
    cases r1; cases r2
    exact ⟨_, _, rfl, q.here s (.int _)⟩
  · exact q.elim) hm (by decide +kernel) (by decide) (by decide) ha hg he hpl
def rMinAll (X : Cx) : List V → Hp → VK → Prop := fun xs H Q => (∃ i j, xs = [.int i, .int j] ∧ Q (.int (if j < i then j else i)) H) ∨ rMin X.K xs H Q
theorem je_min (hm : p.mg "min" = none) (ha : JA p N k sc (e :: es) fa) (hg : sc.names.lookup ("min" : Str) = some .globalImplicit := by rfl) (he : ∀ env, starEach (e :: es) env = (false, eval e env) :: starEach es env := by intro _; rfl) (hpl : ∀ env, (backTo pos (starEach es env)).any (·.1) = false := by intro _; rfl) :
    JE p N k sc (.Call (.Name "min" pp) (e :: es) [] pos) (semCall bMin fa) := je_callB (id := "min") (r := rMinAll) (fun _ X c => (call_min2 c.calm).or (cr_min c.calm)) (fun _ X c => by
  intro F α S H vs ds Q E s r q
  unfold bMin at q
  split at q
  · obtain ⟨v, w, rfl, r1, r2⟩ := two_of r
    cases r1; cases r2
    exact .inl ⟨_, _, rfl, q.here s (.int _)⟩
  · obtain ⟨v, rfl, r1⟩ := one_of r
    split at q
    · rename_i xs hx
      split at q
      · rename_i ns hn
        split at q
        · rename_i hz
          obtain ⟨a, ws, rfl, h3, h4⟩ := s.lstOf r1 hx
          have e1 := intsOf_map hn
          subst e1
          have e2 := h4.ints
          subst e2
          refine .inr ⟨_, ns, rfl, by rw [c.K]; exact h3, hz, fun m hm hle => ?_⟩
          obtain ⟨h5, h6⟩ := least_mem ns hz
          have : m = leastOf ns := Int.le_antisymm (hle _ h5) (h6 m hm)
          rw [this]
          exact q.here s (.int _)
        · exact q.elim
      · exact q.elim
    · exact q.elim
  · exact q.elim) hm (by decide +kernel) (by decide) (by decide) ha hg he hpl
theorem je_tuple (hm : p.mg "tuple" = none) (ha : JA p N k sc (e :: es) fa) (hg : sc.names.lookup ("tuple" : Str) = some .globalImplicit := by rfl) (he : ∀ env, starEach (e :: es) env = (false, eval e env) :: starEach es env := by intro _; rfl) (hpl : ∀ env, (backTo pos (starEach es env)).any (·.1) = false := by intro _; rfl) :
    JE p N k sc (.Call (.Name "tuple" pp) (e :: es) [] pos) (semCall bTuple fa) := je_callT (T := "tuple") (r := fun _ => _) (fun _ X c => call_tuple_of) (fun _ X c => by
  intro F α S H vs ds Q E s r q
  unfold bTuple at q
  split at q
  · obtain ⟨v, rfl, r1⟩ := one_of r
    cases r1 with
    | tup h1 h2 => exact ⟨_, _, rfl, .inr ⟨by rw [c.K]; exact s.sqt h1, q.here s (.tup h1 h2)⟩⟩
  · obtain ⟨v, rfl, r1⟩ := one_of r
    split at q
    · rename_i xs hx
      obtain ⟨a, ws, rfl, h3, h4⟩ := s.lstOf r1 hx
      exact ⟨_, _, rfl, .inl ⟨by rw [c.K]; exact h3, q.tup s h4⟩⟩
    · exact q.elim
  · exact q.elim) hm (by decide +kernel) (by decide) (by decide) ha hg he hpl
def rListA (X : Cx) : List V → Hp → VK → Prop := fun xs H Q => (∃ p ys, xs = [.ref p] ∧ (SqL X.K H p ys ∨ SqT X.K H p ys) ∧ ∀ l, H l = none → Q (.ref l) (upd H l (.lst ys))) ∨
  ∃ z, xs = [.str z] ∧ z.length ≤ sizeLine ∧ ∀ l, H l = none → Q (.ref l) (upd H l (.lst (z.cps.toList.map fun c => V.str ⟨#[c]⟩)))
theorem call_list_strB {X : Cx} (hc : X.calm = true) : CallR X (.type "list") (fun xs H Q => ∃ z, xs = [.str z] ∧ z.length ≤ sizeLine ∧ ∀ l, H l = none → Q (.ref l) (upd H l (.lst (z.cps.toList.map fun c => V.str ⟨#[c]⟩)))) := by
  intro pins s σ H xs us Q I r h
  obtain ⟨z, rfl, hz, q⟩ := h
  obtain ⟨u, rfl, t, rfl⟩ := vals1 r
  refine PySem.call_list_str (I.ok.hd hc) z t (fun h' tk acc' c' hk hS hacc => ?_) hz
  have hlen : z.length = z.cps.toList.length := szOf z
  refine ⟨.ref _, _, I.laid (t' := tk) (o := .lst (z.cps.toList.map fun c => V.str ⟨#[c]⟩)) hk (Nat.le_refl _) ?_, rfl, q _ (I.hok.fresh (Nat.le_refl _))⟩
  refine ⟨by rw [List.length_map, ← hlen]; exact hz, acc'.toList, c', ?_, by simpa using hS⟩
  obtain ⟨h1, h2⟩ := hacc
  have hsz : acc'.toList.length = z.cps.toList.length := by simpa using h1
  have go : ∀ (l : List Nat) (vs : List Value) , vs.length = l.length → (∀ (j : Nat) v, vs[j]? = some v → ∃ c u, l[j]? = some c ∧ v = .str ⟨#[c]⟩ u) → Vals (l.map fun c => V.str ⟨#[c]⟩) vs := by
    intro l
    induction l with
    | nil => intro vs hl _; cases vs with
      | nil => exact .nil
      | cons a b => simp at hl
    | cons c l ih =>
      intro vs hl hv
      cases vs with
      | nil => simp at hl
      | cons v vs =>
        obtain ⟨c', u, e1, e2⟩ := hv 0 v rfl
        have e1 : c = c' := by simpa using e1
        subst e1
        refine .cons ⟨u, e2⟩ (ih vs (by simpa using hl) fun j w hj => ?_)
        obtain ⟨c2, u2, e3, e4⟩ := hv (j + 1) w (by simpa using hj)
        exact ⟨c2, u2, by simpa using e3, e4⟩
  refine go _ _ hsz fun j v hj => ?_
  obtain ⟨c, u, hc, rfl⟩ := h2 j v (by simpa using hj)
  exact ⟨c, u, by simpa using hc, rfl⟩
theorem signsR {F : Hp} {α : List Addr} : ∀ l : List Nat, Rps p F α (l.map fun c => V.str ⟨#[c]⟩) (l.map fun c => D.str ⟨#[c]⟩)
  | [] => .nil
  | c :: l => .cons (.str _) (signsR l)
theorem je_list (hm : p.mg "list" = none) (ha : JA p N k sc (e :: es) fa) (hg : sc.names.lookup ("list" : Str) = some .globalImplicit := by rfl) (he : ∀ env, starEach (e :: es) env = (false, eval e env) :: starEach es env := by intro _; rfl) (hpl : ∀ env, (backTo pos (starEach es env)).any (·.1) = false := by intro _; rfl) :
    JE p N k sc (.Call (.Name "list" pp) (e :: es) [] pos) (semCall bList fa) := je_callT (T := "list") (r := rListA) (fun _ X c => call_list_of.or (call_list_strB c.calm)) (fun _ X c => by
  intro F α S H vs ds Q E s r q
  unfold bList at q
  split at q
  · obtain ⟨v, rfl, r1⟩ := one_of r
    cases r1
    split at q
    · rename_i hz
      exact .inr ⟨_, rfl, hz, q.lst s (signsR _)⟩
    · exact q.elim
  · obtain ⟨v, rfl, r1⟩ := one_of r
    split at q
    · rename_i xs hx
      obtain ⟨a, ws, rfl, h3, h4⟩ := s.seqOf r1 hx
      exact .inl ⟨_, _, rfl, by rw [c.K]; exact h3, q.lst s h4⟩
    · exact q.elim
  · exact q.elim) hm (by decide +kernel) (by decide) (by decide) ha hg he hpl
theorem je_listO (hm : p.mg "list" = none) (ha : JA p N k sc (e :: es) fa) (hg : sc.names.lookup ("list" : Str) = some .globalImplicit := by rfl) (he : ∀ env, starEach (e :: es) env = (false, eval e env) :: starEach es env := by intro _; rfl) (hpl : ∀ env, (backTo pos (starEach es env)).any (·.1) = false := by intro _; rfl) :
    JE p N k sc (.Call (.Name "list" pp) (e :: es) [] pos) (semCall bListO fa) := je_callT (T := "list") (r := rListA) (fun _ X c => call_list_of.or (call_list_strB c.calm)) (fun _ X c => by
  intro F α S H vs ds Q E s r q
  unfold bListO at q
  split at q
  · obtain ⟨v, rfl, r1⟩ := one_of r
    cases r1
    split at q
    · rename_i hz
      exact .inr ⟨_, rfl, hz, q.own (u := .lst _) s (signsR _)⟩
    · exact q.elim
  · obtain ⟨v, rfl, r1⟩ := one_of r
    split at q
    · rename_i xs hx
      obtain ⟨a, ws, rfl, h3, h4⟩ := s.seqOf r1 hx
      exact .inl ⟨_, _, rfl, by rw [c.K]; exact h3, q.own (u := .lst _) s h4⟩
    · exact q.elim
  · exact q.elim) hm (by decide +kernel) (by decide) (by decide) ha hg he hpl
theorem je_all (hm : p.mg "all" = none) (ha : JA p N k sc (e :: es) fa) (hg : sc.names.lookup ("all" : Str) = some .globalImplicit := by rfl) (he : ∀ env, starEach (e :: es) env = (false, eval e env) :: starEach es env := by intro _; rfl) (hpl : ∀ env, (backTo pos (starEach es env)).any (·.1) = false := by intro _; rfl) :
    JE p N k sc (.Call (.Name "all" pp) (e :: es) [] pos) (semCall bAll fa) := je_callB (id := "all") (r := fun _ => _) (fun _ X c => cr_all c.calm) (fun _ X c => by
  intro F α S H vs ds Q E s r q
  unfold bAll at q
  split at q
  · obtain ⟨v, rfl, r1⟩ := one_of r
    split at q
    · rename_i bs hb
      obtain ⟨xs, hx, hb⟩ := Option.bind_eq_some_iff.mp hb
      obtain ⟨a, ws, rfl, h3, h4⟩ := s.lstOf r1 hx
      have e1 := blsOf_map hb
      subst e1
      have e2 := h4.bls
      subst e2
      exact ⟨_, bs, rfl, by rw [c.K]; exact h3, q.here s (.bl _)⟩
    · exact q.elim
  · exact q.elim) hm (by decide +kernel) (by decide) (by decide) ha hg he hpl
theorem je_any (hm : p.mg "any" = none) (ha : JA p N k sc (e :: es) fa) (hg : sc.names.lookup ("any" : Str) = some .globalImplicit := by rfl) (he : ∀ env, starEach (e :: es) env = (false, eval e env) :: starEach es env := by intro _; rfl) (hpl : ∀ env, (backTo pos (starEach es env)).any (·.1) = false := by intro _; rfl) :
    JE p N k sc (.Call (.Name "any" pp) (e :: es) [] pos) (semCall bAny fa) := je_callB (id := "any") (r := fun _ => _) (fun _ X c => cr_any c.calm) (fun _ X c => by
  intro F α S H vs ds Q E s r q
  unfold bAny at q
  split at q
  · obtain ⟨v, rfl, r1⟩ := one_of r
    split at q
    · rename_i bs hb
      obtain ⟨xs, hx, hb⟩ := Option.bind_eq_some_iff.mp hb
      obtain ⟨a, ws, rfl, h3, h4⟩ := s.lstOf r1 hx
      have e1 := blsOf_map hb
      subst e1
      have e2 := h4.bls
      subst e2
      exact ⟨_, bs, rfl, by rw [c.K]; exact h3, q.here s (.bl _)⟩
    · exact q.elim
  · exact q.elim) hm (by decide +kernel) (by decide) (by decide) ha hg he hpl
theorem sqT_ty {K : PySem.W.Frag} {H : Hp} {a : Addr} {xs : List V} (h : SqT K H a xs) : TyX K H (.ref a) (.type "tuple") := by
  rcases h with (h | ⟨o, h⟩) | ⟨o, its, n, h1, h2, _⟩
  · exact .base (.tup h)
  · exact .fTuple h
  · exact .kTuple h1 h2
theorem sqL_ty {K : PySem.W.Frag} {H : Hp} {a : Addr} {xs : List V} (h : SqL K H a xs) : TyX K H (.ref a) (.type "list") := by
  rcases h with (h | ⟨o, h⟩) | ⟨o, its, n, h1, h2, _⟩
  · exact .base (.lst h)
  · exact .base (.frz h)
  · exact .kList h1 h2
theorem tyD_rel {F : Hp} {α : List Addr} {S : Sto} {H : Hp} {v : V} {d : D} {t : BT} (s : StOk p F α S H) (r : Rp p F α v d) (h : tyD S d = some t) : TyX p.K H v (.type t.name) := by
  cases d with
  | non => cases h; cases r; exact .base .non
  | bl b => cases h; cases r; exact .base (.bl _)
  | int b => cases h; cases r; exact .base (.int _)
  | str b => cases h; cases r; exact .base (.str _)
  | tup b =>
    cases h
    cases r with
    | tup h1 h2 => exact sqT_ty (s.sqt h1)
  | lst b =>
    cases h
    cases r with
    | lst h1 h2 => exact sqL_ty (s.sql h1)
  | own j =>
    cases r with
    | own h1 =>
      unfold tyD at h
      dsimp only at h
      cases q : S[j]? with
      | none => rw [q] at h; cases h
      | some o =>
        rw [q] at h
        obtain ⟨a, u, h2, h3, h4⟩ := s.own j o q
        rw [h1] at h2; cases h2
        cases o with
        | lst ys =>
          cases h
          cases u with
          | lst vs => exact .base (.lst h3)
          | _ => exact (show False from h4).elim
        | dK ys =>
          cases h
          cases u with
          | dK vs => exact .base (.dK h3)
          | _ => exact (show False from h4).elim
        | dT ys =>
          cases h
          cases u with
          | dT vs => exact .base (.dT h3)
          | _ => exact (show False from h4).elim
        | _ => cases h
  | ty n => cases h
  | gl n => cases h
theorem kit_bt : ∀ t n : BT, n ≠ .none → kitB t.name n.name = some (subTy t n)
  | t, .int, _ => by cases t <;> decide +kernel
  | t, .str, _ => by cases t <;> decide +kernel
  | t, .bool, _ => by cases t <;> decide +kernel
  | t, .tuple, _ => by cases t <;> decide +kernel
  | t, .list, _ => by cases t <;> decide +kernel
  | t, .dict, _ => by cases t <;> decide +kernel
  | t, .none, h => absurd rfl h
theorem je_isi (hm : p.mg "isinstance" = none) (ha : JA p N k sc (e :: es) fa) (hg : sc.names.lookup ("isinstance" : Str) = some .globalImplicit := by rfl) (he : ∀ env, starEach (e :: es) env = (false, eval e env) :: starEach es env := by intro _; rfl) (hpl : ∀ env, (backTo pos (starEach es env)).any (·.1) = false := by intro _; rfl) :
    JE p N k sc (.Call (.Name "isinstance" pp) (e :: es) [] pos) (semCall bIsi fa) := je_callB (id := "isinstance") (r := fun X => rIsi X.K) (fun _ X c => call_isi) (fun _ X c => by
  intro F α S H vs ds Q E s r q
  unfold bIsi at q
  split at q
  · rename_i d n
    obtain ⟨v, w, rfl, r1, r2⟩ := two_of r
    cases r2
    split at q
    · rename_i t ht
      have h1 := tyD_rel s r1 ht
      by_cases hn : n = .none
      · subst hn
        refine ⟨_, _, _, _, _, rfl, .ty _, by rw [c.K]; exact h1, kit_ty (r := subTy t .none) (by cases t <;> decide +kernel), q.here s (.bl _)⟩
      · exact ⟨_, _, _, _, _, rfl, .ty _, by rw [c.K]; exact h1, kit_ty (kit_bt t n hn), q.here s (.bl _)⟩
    · exact q.elim
  · exact q.elim) hm (by decide +kernel) (by decide) (by decide) ha hg he hpl
end
end
end GB
/-! Statements: sequence, assignment, if, return, expression. -/
namespace GB
open PySem L2

/-! ### what statements compute -/
def sNil : SemS := fun ρ S => .nx ρ S
def sSeq (f g : SemS) : SemS := fun ρ S => match f ρ S with
  | .nx ρ1 S1 => g ρ1 S1
  | .rt d S1 => .rt d S1 | .bk ρ1 S1 => .bk ρ1 S1 | .ct ρ1 S1 => .ct ρ1 S1 | .ex x ρ1 S1 => .ex x ρ1 S1 | .no => .no
def sExpr (f : Sem) : SemS := fun ρ S => match f ρ S with
  | .ok _ S1 => .nx ρ S1 | .ex x S1 => .ex x ρ S1 | .no => .no
def sRet (f : Sem) : SemS := fun ρ S => match f ρ S with
  | .ok d S1 => .rt d S1 | .ex x S1 => .ex x ρ S1 | .no => .no
def sRetN : SemS := fun _ S => .rt .non S
def sBrk : SemS := fun ρ S => .bk ρ S
def sCont : SemS := fun ρ S => .ct ρ S
def sIf (c : Sem) (a b : SemS) : SemS := fun ρ S => match c ρ S with
  | .ok (.bl true) S1 => a ρ S1 | .ok (.bl false) S1 => b ρ S1 | .ok _ _ => .no | .ex x S1 => .ex x ρ S1 | .no => .no
/-- where a value goes -/
abbrev SemG := D → Env → Sto → Option Env
def gNm (i : Nat) : SemG := fun d ρ _ => some (ρ.set i (some d))
/-- several names -/
def setAll : List Nat → List D → Env → Option Env
  | [], [], ρ => some ρ
  | i :: is, d :: ds, ρ => setAll is ds (ρ.set i (some d))
  | _, _, _ => none
def gTp (is : List Nat) : SemG := fun d ρ _ => match d with
  | .tup ds => setAll is ds ρ
  | _ => none
def sAsg (f : Sem) (g : SemG) : SemS := fun ρ S => match f ρ S with
  | .ok d S1 => (match g d ρ S1 with
    | some ρ1 => .nx ρ1 S1
    | none => .no)
  | .ex x S1 => .ex x ρ S1 | .no => .no
/-- a, b = x, y -/
def sPar (is : List Nat) (fa : SemA) : SemS := fun ρ S => match fa ρ S with
  | .ok ds S1 => (match setAll is ds ρ with
    | some ρ1 => .nx ρ1 S1
    | none => .no)
  | .ex x S1 => .ex x ρ S1 | .no => .no

/-! ### the readings -/
section
variable {p : Pc} {W : WX} {σ : L2.St} {H : Hp} {Q : VK} {f : Sem} {Dn : Ends}
/-- what a statement does first is an expression -/
theorem LS.first {F : Hp} {α : List Addr} {S : Sto} {ρ : Env} {k : D → Sto → SR} (s : StOk p F α S H) (e : EnvOk p F α σ ρ)
    (h : SatS p W F α (match f ρ S with | .ok d S1 => k d S1 | .ex x S1 => .ex x ρ S1 | .no => .no) Dn) :
    LE p W f σ H fun v H1 => ∃ F1 α1 S1 d, StOk p F1 α1 S1 H1 ∧ EnvOk p F1 α1 σ ρ ∧ Rp p F1 α1 v d ∧ SatS p W F1 α1 (k d S1) Dn := by
  refine ⟨F, α, S, ρ, s, e, ?_⟩
  cases q : f ρ S with
  | ok d S1 =>
    rw [q] at h
    exact fun v H1 F1 α1 x s1 r => ⟨F1, α1, S1, d, s1, e.ext x, r, h.ext x⟩
  | ex x S1 =>
    rw [q] at h
    exact fun cls dd H1 F1 α1 x s1 r => h σ cls dd H1 F1 α1 x s1 (e.ext x) r
  | no => rw [q] at h; exact h.elim
theorem LS.firstA {fa : SemA} {F : Hp} {α : List Addr} {S : Sto} {ρ : Env} {k : List D → Sto → SR} (s : StOk p F α S H) (e : EnvOk p F α σ ρ)
    (h : SatS p W F α (match fa ρ S with | .ok d S1 => k d S1 | .ex x S1 => .ex x ρ S1 | .no => .no) Dn) :
    LA p W fa σ H fun v H1 => ∃ F1 α1 S1 d, StOk p F1 α1 S1 H1 ∧ EnvOk p F1 α1 σ ρ ∧ Rps p F1 α1 v d ∧ SatS p W F1 α1 (k d S1) Dn := by
  refine ⟨F, α, S, ρ, s, e, ?_⟩
  cases q : fa ρ S with
  | ok d S1 =>
    rw [q] at h
    exact fun v H1 F1 α1 x s1 r => ⟨F1, α1, S1, d, s1, e.ext x, r, h.ext x⟩
  | ex x S1 =>
    rw [q] at h
    exact fun cls dd H1 F1 α1 x s1 r => h σ cls dd H1 F1 α1 x s1 (e.ext x) r
  | no => rw [q] at h; exact h.elim
theorem SatS.nx_here {F : Hp} {α : List Addr} {S : Sto} {ρ : Env} (h : SatS p W F α (.nx ρ S) Dn) (s : StOk p F α S H) (e : EnvOk p F α σ ρ) : Dn.nx σ H := h σ H F α (Ext.refl F α) s e
end
section
variable {p : Pc} {N : List Str} {k : Nat} {sc : Sco} {a b c e : Expr} {st : Stmt} {ss tt : List Stmt} {f g h : Sem} {fs gs : SemS} {fa : SemA} {pos : Pos}
theorem js_nil : JSs p N k sc [] sNil := fun W X c => PSs.imp pss_nil fun Dn σ H ⟨F, α, S, ρ, s, e, q⟩ => q.nx_here s e
theorem js_cons (h1 : JS p N k sc st fs) (h2 : JSs p N k sc ss gs) : JSs p N k sc (st :: ss) (sSeq fs gs) := fun W X c => by
  refine PSs.imp (pss_cons (h1 W X c) (h2 W X c)) fun Dn σ H ⟨F, α, S, ρ, s, e, q⟩ => ?_
  refine ⟨F, α, S, ρ, s, e, ?_⟩
  unfold sSeq at q
  cases r : fs ρ S with
  | nx ρ1 S1 =>
    rw [r] at q
    exact fun σ' H' F' α' x s' e' => ⟨F', α', S1, ρ1, s', e', q.ext x⟩
  | rt d S1 => rw [r] at q; exact q
  | bk d S1 => rw [r] at q; exact q
  | ct d S1 => rw [r] at q; exact q
  | ex d ρ1 S1 => rw [r] at q; exact q
  | no => rw [r] at q; exact q
theorem js_one (h1 : JS p N k sc st fs) : JSs p N k sc [st] fs := fun W X c => pss_one (h1 W X c)
theorem js_pass : JS p N k sc (.Pass pos) sNil := fun W X c => PS.imp ps_pass fun Dn σ H ⟨F, α, S, ρ, s, e, q⟩ => q.nx_here s e
theorem js_break : JS p N k sc (.Break pos) sBrk := fun W X c => PS.imp ps_break fun Dn σ H ⟨F, α, S, ρ, s, e, q⟩ => q σ H F α (Ext.refl F α) s e
theorem js_continue : JS p N k sc (.Continue pos) sCont := fun W X c => PS.imp ps_continue fun Dn σ H ⟨F, α, S, ρ, s, e, q⟩ => q σ H F α (Ext.refl F α) s e
theorem js_expr (h : JE p N k sc e f) (hs : ∀ env, swapsWith e none pos.line env = pure false := by intro _; rfl) : JS p N k sc (.Expr e pos) (sExpr f) := fun W X c => by
  refine PS.imp (ps_expr (h W X c.c) (hs _)) fun Dn σ H ⟨F, α, S, ρ, s, e, q⟩ => ?_
  obtain ⟨F1, α1, S1, ρ1, s1, e1, q1⟩ := LS.first (k := fun _ S1 => .nx ρ S1) s e q
  exact ⟨F1, α1, S1, ρ1, s1, e1, q1.imp (fun v H1 ⟨F, α, S, d, s, e, r, q⟩ => q.nx_here s e) fun _ _ _ z => z⟩
theorem js_ret (h : JE p N k sc e f) : JS p N k sc (.Return (some e) pos) (sRet f) := fun W X c => by
  refine PS.imp (ps_ret (h W X c.c)) fun Dn σ H ⟨F, α, S, ρ, s, e, q⟩ => ?_
  obtain ⟨F1, α1, S1, ρ1, s1, e1, q1⟩ := LS.first (k := fun d S1 => .rt d S1) s e q
  exact ⟨F1, α1, S1, ρ1, s1, e1, q1.imp (fun v H1 ⟨F, α, S, d, s, e, r, q⟩ => q v H1 F α (Ext.refl F α) s r) fun _ _ _ z => z⟩
theorem js_retN : JS p N k sc (.Return none pos) sRetN := fun W X c => PS.imp ps_retN fun Dn σ H ⟨F, α, S, ρ, s, e, q⟩ => q _ H F α (Ext.refl F α) s .non
theorem js_if {fc : Sem} (hc : JT p N k sc c fc) (h1 : JSs p N k sc ss fs) (h2 : JSs p N k sc tt gs) : JS p N k sc (.If c ss tt pos) (sIf fc fs gs) := fun W X c => by
  refine PS.imp (ps_if (hc W X c.c) (h1 W X c) (h2 W X c)) fun Dn σ H ⟨F, α, S, ρ, s, e, q⟩ => ?_
  have q' : SatS p W F α (match fc ρ S with | .ok d S1 => (match d with | .bl true => fs ρ S1 | .bl false => gs ρ S1 | _ => .no) | .ex x S1 => .ex x ρ S1 | .no => .no) Dn := by
    unfold sIf at q
    cases r : fc ρ S with
    | ok d S1 =>
      rw [r] at q
      cases d with
      | bl b => cases b <;> exact q
      | _ => exact q.elim
    | ex x S1 => rw [r] at q; exact q
    | no => rw [r] at q; exact q
  obtain ⟨F1, α1, S1, ρ1, s1, e1, q1⟩ := LS.first s e q'
  refine ⟨F1, α1, S1, ρ1, s1, e1, q1.imp (fun v H1 ⟨F, α, S, d, s, e, r, q⟩ => ?_) fun _ _ _ z => z⟩
  cases d with
  | bl b =>
    cases r
    refine ⟨b, rfl, ?_⟩
    cases b with
    | true => exact ⟨F, α, S, ρ, s, e, q⟩
    | false => exact ⟨F, α, S, ρ, s, e, q⟩
  | _ => exact q.elim
/-- but for these slots as before -/
def Fra (is : List Nat) (σ σ' : L2.St) : Prop := σ'.length = σ.length ∧ ∀ j, j ∉ is → σ'[j]? = σ[j]?
theorem Fra.refl (is : List Nat) (σ : L2.St) : Fra is σ σ := ⟨rfl, fun _ _ => rfl⟩
theorem Fra.set {i : Nat} {σ : L2.St} {v : V} : Fra [i] σ (σ.set i (some v)) := ⟨by simp, fun j hj => List.getElem?_set_ne (fun z => hj (by simp [z]))⟩
theorem Fra.cons {i : Nat} {is : List Nat} {σ σ1 σ2 : L2.St} (a : Fra [i] σ σ1) (b : Fra is σ1 σ2) : Fra (i :: is) σ σ2 :=
  ⟨b.1.trans a.1, fun j hj => (b.2 j fun z => hj (List.mem_cons_of_mem _ z)).trans (a.2 j fun z => hj (by simp at z; simp [z]))⟩
/-- a target -/
def LG (p : Pc) (is : List Nat) (g : SemG) : TG := fun v σ H Q => ∃ F α S ρ d ρ1, StOk p F α S H ∧ EnvOk p F α σ ρ ∧ Rp p F α v d ∧ g d ρ S = some ρ1 ∧ ∀ σ', EnvOk p F α σ' ρ1 → Fra is σ σ' → Q σ' H
/-- the names may be stored in this frame -/
def FnAt (X : Cx) (sc : Sco) (xs : List Str) : Prop := ∀ x ∈ xs, X.fn x = true ∨ sc.names.lookup x = some .local
def JG (p : Pc) (N : List Str) (k : Nat) (sc : Sco) (xs : List Str) (tg : Expr) (is : List Nat) (g : SemG) : Prop := ∀ W X, COk p N k sc W X → FnAt X sc xs → PG X tg (LG p is g)
theorem PG.imp {X : Cx} {e : Expr} {t t' : TG} (h : PG X e t) (i : ∀ v σ H Q, t' v σ H Q → t v σ H Q) : PG X e t' := ⟨fun pins s σ H v u Q I r hq => h.run pins s σ H v u Q I r (i v σ H Q hq)⟩
theorem PGs.imp {X : Cx} {e : List Expr} {t t' : TGs} (h : PGs X e t) (i : ∀ v σ H Q, t' v σ H Q → t v σ H Q) : PGs X e t' := ⟨fun pins s σ H v u Q I r hq => h.run pins s σ H v u Q I r (i v σ H Q hq)⟩
theorem jg_name (i : Nat) {x : Str} {pp : Pos} (hN : N[i]? = some x := by rfl) (hl : sc.names.lookup x = some .local ∨ sc.names.lookup x = some .cell := by first | exact .inl rfl | exact .inr rfl) : JG p N k sc [x] (.Name x pp) [i] (gNm i) := fun W X c hf => by
  refine PG.imp (pg_name (i := i) (by rw [c.hN]; exact c.nd) (by rw [c.hN]; exact hN) (by rw [c.hsc]; exact hl) (by rw [c.hsc]; exact hf x (by simp))) fun v σ H Q ⟨F, α, S, ρ, d, ρ1, s, e, r, hg, q⟩ => ?_
  cases hg
  exact q _ (e.set r) Fra.set
def LGs (p : Pc) (is : List Nat) : TGs := fun vs σ H Q => ∃ F α S ρ ds ρ1, StOk p F α S H ∧ EnvOk p F α σ ρ ∧ Rps p F α vs ds ∧ setAll is ds ρ = some ρ1 ∧ ∀ σ', EnvOk p F α σ' ρ1 → Fra is σ σ' → Q σ' H
def JGs (p : Pc) (N : List Str) (k : Nat) (sc : Sco) (xs : List Str) (tg : List Expr) (is : List Nat) : Prop := ∀ W X, COk p N k sc W X → FnAt X sc xs → PGs X tg (LGs p is)
theorem jgs_nil : JGs p N k sc [] [] [] := fun W X c hf => PGs.imp pgs_nil fun v σ H Q ⟨F, α, S, ρ, d, ρ1, s, e, r, hg, q⟩ => by
  cases d with
  | nil => cases hg; cases r; exact ⟨rfl, q _ e (Fra.refl _ _)⟩
  | cons a b => cases hg
theorem jgs_cons (i : Nat) {x : Str} {xs : List Str} {pp : Pos} {es : List Expr} {is : List Nat} (h : JGs p N k sc xs es is) (hN : N[i]? = some x := by rfl) (hl : sc.names.lookup x = some .local ∨ sc.names.lookup x = some .cell := by first | exact .inl rfl | exact .inr rfl)
    (hs : ∀ env, (assignEach (.Name x pp :: es) env).map (·.2) = assign (.Name x pp) env :: (assignEach es env).map (·.2) := by intro _; rfl) : JGs p N k sc (x :: xs) (.Name x pp :: es) (i :: is) := fun W X c hf => by
  refine PGs.imp (pgs_cons (jg_name (pp := pp) i hN hl W X c (fun y hy => hf y (by simp at hy; simp [hy]))) (h W X c (fun y hy => hf y (List.mem_cons_of_mem _ hy))) (hs _)) fun v σ H Q ⟨F, α, S, ρ, ds, ρ1, s, e, r, hg, q⟩ => ?_
  cases ds with
  | nil => cases hg
  | cons d ds =>
    cases r with
    | cons r rr => exact ⟨_, _, rfl, F, α, S, ρ, d, _, s, e, r, rfl, fun σ' e' f1 => ⟨F, α, S, _, ds, ρ1, s, e', rr, hg, fun σ2 e2 f2 => q σ2 e2 (f1.cons f2)⟩⟩
theorem setAll_length : ∀ {is : List Nat} {ds : List D} {ρ ρ1 : Env}, setAll is ds ρ = some ρ1 → ds.length = is.length
  | [], [], _, _, _ => rfl
  | [], _ :: _, _, _, h => by cases h
  | _ :: _, [], _, _, h => by cases h
  | i :: is, d :: ds, ρ, ρ1, h => by
    have := setAll_length (is := is) (ds := ds) h
    simp [this]
theorem jg_tup {es : List Expr} {is : List Nat} {xs : List Str} {kk : Nat} {pp : Pos} (h : JGs p N k sc xs es is)
    (hn : ∀ env, (assignEach es env).length = is.length := by intro _; rfl) (hst : ∀ env, (assignEach es env).findIdx? (·.1) = none := by intro _; rfl) : JG p N k sc xs (.Tuple es kk pp) is (gTp is) := fun W X c hf => by
  refine PG.imp (pg_tup (n := is.length) c.calm (h W X c hf) (hn _) (hst _)) fun v σ H Q ⟨F, α, S, ρ, d, ρ1, s, e, r, hg, q⟩ => ?_
  unfold gTp at hg
  cases d with
  | tup ds =>
    cases r with
    | tup h1 h2 => exact ⟨_, _, rfl, by rw [c.K]; exact s.sqt h1, by rw [h2.length]; exact setAll_length hg, F, α, S, ρ, ds, ρ1, s, e, h2, hg, q⟩
  | _ => cases hg
theorem SOk.fns {W : WX} {X : Cx} (c : SOk p N k sc W X) (xs : List Str) : FnAt X sc xs := fun x _ => .inl (c.fn x)
theorem js_set (i : Nat) {x : Str} {pp : Pos} (h : JE p N k sc e f) (hN : N[i]? = some x := by rfl) (hl : sc.names.lookup x = some .local ∨ sc.names.lookup x = some .cell := by first | exact .inl rfl | exact .inr rfl)
    (hs : ∀ env, swapsWith e (some (.Name x pp)) pos.line env = pure false := by intro _; rfl) : JS p N k sc (.Assign [.Name x pp] e pos) (sAsg f (gNm i)) := fun W X c => by
  refine PS.imp (ps_set (i := i) (by rw [c.c.hN]; exact c.c.nd) (by rw [c.c.hN]; exact hN) (by rw [c.c.hsc]; exact hl) (h W X c.c) (hs _) (.inl (c.fn x))) fun Dn σ H ⟨F, α, S, ρ, s, e, q⟩ => ?_
  obtain ⟨F1, α1, S1, ρ1, s1, e1, q1⟩ := LS.first (k := fun d S1 => .nx (ρ.set i (some d)) S1) s e q
  exact ⟨F1, α1, S1, ρ1, s1, e1, q1.imp (fun v H1 ⟨F, α, S, d, s, e, r, q⟩ => q.nx_here s (e.set r)) fun _ _ _ z => z⟩
theorem js_asg {tg : Expr} {xs : List Str} {is : List Nat} {gg : SemG} (h : JE p N k sc e f) (hg : JG p N k sc xs tg is gg) (hs : ∀ env, swapsWithSole [tg] e pos.line env = pure false := by intro _; rfl) (hw : ∀ env, swappedStores [tg] e env = pure none := by intro _; rfl)
    (h1 : ∀ env, (assignEach [tg] env).map (·.2) = [assign tg env] := by intro _; rfl) : JS p N k sc (.Assign [tg] e pos) (sAsg f gg) := fun W X c => by
  refine PS.imp (ps_asg (h W X c.c) (hg W X c.c (c.fns _)) (hs _) (hw _) (h1 _)) fun Dn σ H ⟨F, α, S, ρ, s, e, q⟩ => ?_
  obtain ⟨F1, α1, S1, ρ1, s1, e1, q1⟩ := LS.first (k := fun d S1 => match gg d ρ S1 with | some ρ1 => .nx ρ1 S1 | none => .no) s e q
  refine ⟨F1, α1, S1, ρ1, s1, e1, q1.imp (fun v H1 ⟨F, α, S, d, s, e, r, q⟩ => ?_) fun _ _ _ z => z⟩
  cases hq : gg d ρ S with
  | none => rw [hq] at q; exact q.elim
  | some ρ2 =>
    rw [hq] at q
    exact ⟨F, α, S, ρ, d, ρ2, s, e, r, hq, fun σ' e' _ => q.nx_here s e'⟩
end
end GB
/-! Several names at once; what is walked; for, while. -/
namespace GB
open PySem L2
/-- an environment of that scope -/
abbrev E0 (sc : Sco) : PySem.Env := PyProof.Rows.envOfC "" sc.toScope 0 0 .none
theorem swapped_eq {ts : List Expr} {v : Expr} {e e' : PySem.Env} (h : e.scope = e'.scope) : swappedStores ts v e = swappedStores ts v e' := by
  unfold swappedStores Env.blockKind Env.kindOf
  rw [h]
section
variable {p : Pc} {N : List Str} {k : Nat} {sc : Sco} {a b c e : Expr} {st : Stmt} {ss tt : List Stmt} {f g h : Sem} {fs gs : SemS} {fa : SemA} {pos : Pos}
theorem js_par {i j : Nat} {x y : Str} {px py pt : Pos} {kt k2 pt2} (ha : JA p N k sc [a, b] fa) (hi : N[i]? = some x := by rfl) (hj : N[j]? = some y := by rfl) (hij : i ≠ j := by decide)
    (hx : sc.names.lookup x = some .local := by rfl) (hy : sc.names.lookup y = some .local := by rfl)
    (hw : swappedStores [.Tuple [.Name x px, .Name y py] kt pt] (.Tuple [a, b] k2 pt2) (E0 sc) = pure (some [x, y]) := by rfl)
    (hs : ∀ env, swapsWithSole [.Tuple [.Name x px, .Name y py] kt pt] (.Tuple [a, b] k2 pt2) pos.line env = pure false := by intro _; rfl) :
    JS p N k sc (.Assign [.Tuple [.Name x px, .Name y py] kt pt] (.Tuple [a, b] k2 pt2) pos) (sPar [i, j] fa) := fun W X c => by
  refine PS.imp (ps_par (i := i) (j := j) c.c.calm (by rw [c.c.hN]; exact c.c.nd) (by rw [c.c.hN]; exact hi) (by rw [c.c.hN]; exact hj) hij (by rw [c.c.hsc]; exact hx) (by rw [c.c.hsc]; exact hy) (ha W X c.c) (by rw [swapped_eq (e' := E0 sc) c.c.hsc]; exact hw) (hs _)) fun Dn σ H ⟨F, α, S, ρ, s, e, q⟩ => ?_
  obtain ⟨F1, α1, S1, ρ1, s1, e1, q1⟩ := LS.firstA (k := fun ds S1 => match setAll [i, j] ds ρ with | some ρ1 => .nx ρ1 S1 | none => .no) s e q
  refine ⟨F1, α1, S1, ρ1, s1, e1, q1.imp (fun vs H1 ⟨F, α, S, ds, s, e, r, q⟩ => ?_) fun _ _ _ z => z⟩
  match ds, r with
  | [], _ => exact q.elim
  | [_], _ => exact q.elim
  | [d1, d2], .cons r1 (.cons r2 .nil) => exact ⟨_, _, rfl, q.nx_here s ((e.set r1).set r2)⟩
  | _ :: _ :: _ :: _, _ => exact q.elim
theorem js_par3 {i j l : Nat} {x y z : Str} {px py pz pt : Pos} {kt k2 pt2} (ha : JA p N k sc [a, b, c] fa) (hi : N[i]? = some x := by rfl) (hj : N[j]? = some y := by rfl) (hl : N[l]? = some z := by rfl) (hij : i ≠ j := by decide) (hil : i ≠ l := by decide) (hjl : j ≠ l := by decide)
    (hx : sc.names.lookup x = some .local := by rfl) (hy : sc.names.lookup y = some .local := by rfl) (hz : sc.names.lookup z = some .local := by rfl)
    (hw : swappedStores [.Tuple [.Name x px, .Name y py, .Name z pz] kt pt] (.Tuple [a, b, c] k2 pt2) (E0 sc) = pure (some [x, y, z]) := by rfl)
    (hs : ∀ env, swapsWithSole [.Tuple [.Name x px, .Name y py, .Name z pz] kt pt] (.Tuple [a, b, c] k2 pt2) pos.line env = pure false := by intro _; rfl) :
    JS p N k sc (.Assign [.Tuple [.Name x px, .Name y py, .Name z pz] kt pt] (.Tuple [a, b, c] k2 pt2) pos) (sPar [i, j, l] fa) := fun W X c => by
  refine PS.imp (ps_par3 (i := i) (j := j) (l := l) c.c.calm (by rw [c.c.hN]; exact c.c.nd) (by rw [c.c.hN]; exact hi) (by rw [c.c.hN]; exact hj) (by rw [c.c.hN]; exact hl) hij hil hjl (by rw [c.c.hsc]; exact hx) (by rw [c.c.hsc]; exact hy) (by rw [c.c.hsc]; exact hz) (ha W X c.c) (by rw [swapped_eq (e' := E0 sc) c.c.hsc]; exact hw) (hs _)) fun Dn σ H ⟨F, α, S, ρ, s, e, q⟩ => ?_
  obtain ⟨F1, α1, S1, ρ1, s1, e1, q1⟩ := LS.firstA (k := fun ds S1 => match setAll [i, j, l] ds ρ with | some ρ1 => .nx ρ1 S1 | none => .no) s e q
  refine ⟨F1, α1, S1, ρ1, s1, e1, q1.imp (fun vs H1 ⟨F, α, S, ds, s, e, r, q⟩ => ?_) fun _ _ _ z => z⟩
  match ds, r with
  | [], _ => exact q.elim
  | [_], _ => exact q.elim
  | [_, _], _ => exact q.elim
  | [d1, d2, d3], .cons r1 (.cons r2 (.cons r3 .nil)) => exact ⟨_, _, _, rfl, q.nx_here s (((e.set r1).set r2).set r3)⟩
  | _ :: _ :: _ :: _ :: _, _ => exact q.elim
/-- the value a tuple, the stores not swapped -/
theorem js_asgT {tg : Expr} {xs : List Str} {is : List Nat} {gg : SemG} (h : JE p N k sc e f) (hg : JG p N k sc xs tg is gg) (hw : swappedStores [tg] e (E0 sc) = pure none := by rfl) (hs : ∀ env, swapsWithSole [tg] e pos.line env = pure false := by intro _; rfl)
    (h1 : ∀ env, (assignEach [tg] env).map (·.2) = [assign tg env] := by intro _; rfl) : JS p N k sc (.Assign [tg] e pos) (sAsg f gg) := fun W X c => by
  refine PS.imp (ps_asg (h W X c.c) (hg W X c.c (c.fns _)) (hs _) (by rw [swapped_eq (e' := E0 sc) c.c.hsc]; exact hw) (h1 _)) fun Dn σ H ⟨F, α, S, ρ, s, e, q⟩ => ?_
  obtain ⟨F1, α1, S1, ρ1, s1, e1, q1⟩ := LS.first (k := fun d S1 => match gg d ρ S1 with | some ρ1 => .nx ρ1 S1 | none => .no) s e q
  refine ⟨F1, α1, S1, ρ1, s1, e1, q1.imp (fun v H1 ⟨F, α, S, d, s, e, r, q⟩ => ?_) fun _ _ _ z => z⟩
  cases hq : gg d ρ S with
  | none => rw [hq] at q; exact q.elim
  | some ρ2 =>
    rw [hq] at q
    exact ⟨F, α, S, ρ, d, ρ2, s, e, r, hq, fun σ' e' _ => q.nx_here s e'⟩
end

/-! ### what is walked -/
/-- the iterator yields these, one after the other, while the store's objects may be written -/
def ItOk (p : Pc) (F : Hp) (α : List Addr) (J : It) (ds : List D) : Prop := ∀ F' α' S' H, Ext F α F' α' → StOk p F' α' S' H →
  (∀ i d, ds[i]? = some d → J.go i H ∧ ∀ x H', J.yld i H x H' → ∃ F'', Ext F' α' F'' α' ∧ StOk p F'' α' S' H' ∧ Rp p F'' α' x d) ∧ ∀ i, ds.length ≤ i → J.stop i H
theorem ItOk.ext {p : Pc} {F F' : Hp} {α α' : List Addr} {J : It} {ds : List D} (x : Ext F α F' α') (h : ItOk p F α J ds) : ItOk p F' α' J ds := fun F2 α2 S2 H y s => h F2 α2 S2 H (x.trans y) s
def SatI (p : Pc) (F : Hp) (α : List Addr) (r : R (List D)) (Q : It → Hp → Prop) (E : XK) : Prop := match r with
  | .ok ds S => ∀ J H' F' α', Ext F α F' α' → StOk p F' α' S H' → ItOk p F' α' J ds → Q J H'
  | .ex x S => ∀ cls dd H' F' α', Ext F α F' α' → StOk p F' α' S H' → ExR p F' α' x cls dd → E cls dd H'
  | .no => False
def LI (p : Pc) (W : WX) (f : SemA) : TI := fun σ H R => ∃ F α S ρ, StOk p F α S H ∧ EnvOk p F α σ ρ ∧ SatI p F α (f ρ S) R fun c d H' => W c d σ H'
def JI (p : Pc) (N : List Str) (k : Nat) (sc : Sco) (tg e : Expr) (f : SemA) : Prop := ∀ W X, COk p N k sc W X → PI X tg e (LI p W f)
theorem PI.imp {X : Cx} {tg e : Expr} {t t' : TI} (h : PI X tg e t) (i : ∀ σ H Q, t' σ H Q → t σ H Q) : PI X tg e t' := ⟨fun pins s σ H Q I hq => h.run pins s σ H Q I (i σ H Q hq)⟩
def kD : Key → D
  | .inl i => .int i
  | .inr x => .str x
/-- the items of a tuple, of a list, the keys of a dict (what stands in the store is locked while it is walked) -/
def bItems (d : D) (S : Sto) : R (List D) := match d with
  | .tup xs => .ok xs S | .lst xs => .ok xs S
  | .str z => .ok (z.cps.toList.map fun c => .str ⟨#[c]⟩) S
  | .own k => (match S[k]? with
    | some (.frz (.lst xs)) => .ok xs S
    | some (.frz (.dT kvs)) => .ok (kvs.map fun kv => .tup (kv.1.map kD)) S
    | some (.frz (.dK kvs)) => .ok (kvs.map fun kv => kD kv.1) S
    | _ => .no)
  | _ => .no
section
variable {p : Pc} {N : List Str} {k : Nat} {sc : Sco} {a b c e : Expr} {es : List Expr} {f g h : Sem} {fa : SemA} {pos pp : Pos}
theorem it_tup {F : Hp} {α : List Addr} {a : Addr} {vs : List V} {ds : List D} (h : DqT p.K F a vs) (r : Rps p F α vs ds) : ItOk p F α (Itt p.K a) ds := fun F' α' S' H x s => by
  have hq := s.sqt (x.w.dqt h)
  have r' := Rps.ext x _ _ r
  refine ⟨fun i d hd => ?_, fun i hi => ⟨vs, hq, by rw [r.length]; exact hi⟩⟩
  obtain ⟨v, hv, rv⟩ := r'.get hd
  exact ⟨⟨vs, v, hq, hv⟩, fun y H' ⟨e, hy⟩ => ⟨F', Ext.refl _ _, by rw [e]; exact s, by
    have := hy vs hq
    rw [hv] at this; cases this; exact rv⟩⟩
theorem it_lst {F : Hp} {α : List Addr} {a : Addr} {vs : List V} {ds : List D} (h : DqL p.K F a vs ∨ ∃ ob, F a = some (.frz ob (.lst vs))) (r : Rps p F α vs ds) : ItOk p F α (Itl p.K a) ds := fun F' α' S' H x s => by
  have hq : SqL p.K H a vs := by
    rcases h with h | ⟨ob, h⟩
    · exact s.sql (x.w.dql h)
    · exact .inl (.inr ⟨ob, s.sub _ _ (x.f _ _ h)⟩)
  have r' := Rps.ext x _ _ r
  refine ⟨fun i d hd => ?_, fun i hi => ⟨vs, hq, by rw [r.length]; exact hi⟩⟩
  obtain ⟨v, hv, rv⟩ := r'.get hd
  exact ⟨⟨vs, v, hq, hv⟩, fun y H' ⟨e, hy⟩ => ⟨F', Ext.refl _ _, by rw [e]; exact s, by
    have := hy vs hq
    rw [hv] at this; cases this; exact rv⟩⟩
theorem it_str {F : Hp} {α : List Addr} (z : Str) : ItOk p F α (Its z) (z.cps.toList.map fun c => .str ⟨#[c]⟩) := fun F' α' S' H x s => by
  refine ⟨fun i d hd => ?_, fun i hi => by show z.cps.size ≤ i; simpa using hi⟩
  rw [List.getElem?_map] at hd
  cases hc : z.cps.toList[i]? with
  | none => rw [hc] at hd; cases hd
  | some u =>
    rw [hc] at hd
    cases hd
    have hc' : z.cps[i]? = some u := by simpa using hc
    refine ⟨(Array.getElem?_eq_some_iff.mp hc').1, fun y H' ⟨e, u2, h1, h2⟩ => ⟨F', Ext.refl _ _, by rw [e]; exact s, ?_⟩⟩
    rw [hc'] at h1; cases h1
    rw [h2]; exact .str _
theorem kv_rp {F : Hp} {α : List Addr} : ∀ k : Key, Rp p F α (kV k) (kD k)
  | .inl i => .int i
  | .inr x => .str x
theorem kvs_rp {F : Hp} {α : List Addr} : ∀ k : List Key, Rps p F α (k.map kV) (k.map kD)
  | [] => .nil
  | k :: r => .cons (kv_rp k) (kvs_rp r)
theorem kvR.length {κ : Type} {F : Hp} {α : List Addr} {ks : List (κ × V)} {ls : List (κ × D)} (h : kvR p F α ks ls) : ks.length = ls.length := Paired.length h
theorem kvR.key {κ : Type} {F : Hp} {α : List Addr} : ∀ {ks : List (κ × V)} {ls : List (κ × D)} {i : Nat} {y : κ × D}, kvR p F α ks ls → ls[i]? = some y → ∃ v, ks[i]? = some (y.1, v) ∧ Rp p F α v y.2
  | _, _, _, _, .nil, h => by simp at h
  | _, _, 0, _, .cons (a := x) r _, h => by
    simp at h; subst h
    exact ⟨x.2, by rw [← r.1]; rfl, r.2⟩
  | _, _, i + 1, _, .cons _ t, h => by
    obtain ⟨v, h1, h2⟩ := kvR.key (i := i) t (by simpa using h)
    exact ⟨v, by simpa using h1, h2⟩
theorem it_keys {F : Hp} {α : List Addr} {a : Addr} {ob : Obj} {kws : List (Key × V)} {kvs : List (Key × D)} (h : F a = some (.frz ob (.dK kws))) (r : kvR p F α kws kvs) : ItOk p F α (Itk a ob kws) (kvs.map fun kv => kD kv.1) := fun F' α' S' H x s => by
  have hH := s.sub _ _ (x.f _ _ h)
  refine ⟨fun i d hd => ?_, fun i hi => ⟨hH, by rw [kvR.length r]; simpa using hi⟩⟩
  rw [List.getElem?_map] at hd
  cases hc : kvs[i]? with
  | none => rw [hc] at hd; cases hd
  | some y =>
    rw [hc] at hd; cases hd
    obtain ⟨v, h1, h2⟩ := kvR.key r hc
    refine ⟨⟨hH, (List.getElem?_eq_some_iff.mp h1).1⟩, fun y' H' ⟨e, k, v', h3, h4⟩ => ⟨F', Ext.refl _ _, by rw [e]; exact s, ?_⟩⟩
    rw [h1] at h3; cases h3
    rw [h4]; exact kv_rp _
theorem it_keysT {F : Hp} {α : List Addr} {a : Addr} {ob : Obj} {kws : List (List Key × V)} {kvs : List (List Key × D)} (h : F a = some (.frz ob (.dT kws))) (r : kvR p F α kws kvs) : ItOk p F α (Itkt a ob kws) (kvs.map fun kv => .tup (kv.1.map kD)) := fun F' α' S' H x s => by
  have hH := s.sub _ _ (x.f _ _ h)
  refine ⟨fun i d hd => ?_, fun i hi => ⟨hH, by rw [kvR.length r]; simpa using hi⟩⟩
  rw [List.getElem?_map] at hd
  cases hc : kvs[i]? with
  | none => rw [hc] at hd; cases hd
  | some y =>
    rw [hc] at hd; cases hd
    obtain ⟨v, h1, h2⟩ := kvR.key r hc
    refine ⟨⟨hH, (List.getElem?_eq_some_iff.mp h1).1⟩, fun y' H' ⟨e, k, v', q, h3, h4, h5⟩ => ?_⟩
    rw [h1] at h3; cases h3
    obtain ⟨F2, g1, g2, g3⟩ := s.adopt h5
    exact ⟨F2, g3, by rw [e]; exact g2, by rw [h4]; exact .tup g1 (kvs_rp _)⟩
theorem Sat.of_ok {F : Hp} {α : List Addr} {d : D} {S : Sto} {Q : VK} {E : XK} (h : ∀ v H' F' α', Ext F α F' α' → StOk p F' α' S H' → Rp p F' α' v d → Q v H') : Sat p F α (.ok d S) Q E := h
def semItems (f : Sem) : SemA := fun ρ S => (f ρ S).bind bItems
theorem ji_seq {tg : Expr} (he : JE p N k sc e f) : JI p N k sc tg e (semItems f) := fun W X c => by
  refine ⟨fun pins s σ H R I h => ?_⟩
  obtain ⟨F, α, S, ρ, st, en, q⟩ := h
  have q : SatI p F α ((f ρ S).bind bItems) R fun c d H' => W c d σ H' := q
  have pe := he W X c
  have K := c.K
  cases hf : f ρ S with
  | no => rw [hf] at q; exact q.elim
  | ex x S1 =>
    rw [hf] at q
    exact (pi_tup pe).run pins s σ H R I ⟨F, α, S, ρ, st, en, by rw [hf]; exact q⟩
  | ok d S1 =>
    rw [hf] at q
    have q : SatI p F α (bItems d S1) R fun c d H' => W c d σ H' := q
    cases d with
    | tup ds => exact (pi_tup pe).run pins s σ H R I ⟨F, α, S, ρ, st, en, by
        rw [hf]
        intro v H' F' α' x s' r
        cases r with
        | tup h1 h2 => exact ⟨_, rfl, ⟨_, by rw [K]; exact s'.sqt h1⟩, by rw [K]; exact q _ H' F' α' x s' (it_tup h1 h2)⟩⟩
    | lst ds => exact (pi_list pe).run pins s σ H R I ⟨F, α, S, ρ, st, en, by
        rw [hf]
        intro v H' F' α' x s' r
        cases r with
        | lst h1 h2 => exact ⟨_, rfl, ⟨_, by rw [K]; exact s'.sql h1⟩, by rw [K]; exact q _ H' F' α' x s' (it_lst (.inl h1) h2)⟩⟩
    | str z => exact (pi_str pe).run pins s σ H R I ⟨F, α, S, ρ, st, en, by
        rw [hf]
        intro v H' F' α' x s' r
        cases r
        exact ⟨_, rfl, q _ H' F' α' x s' (it_str z)⟩⟩
    | own j =>
      cases hS : S1[j]? with
      | none => simp only [bItems, hS] at q; exact q.elim
      | some o =>
        have look : ∀ {v : V} {H' F' α'}, StOk p F' α' S1 H' → Rp p F' α' v (.own j) → ∃ a u, v = .ref a ∧ H' a = some u ∧ OU p F' α' o u ∧ α'[j]? = some a := fun {v H' F' α'} s' r => by
          cases r with
          | own h1 =>
            obtain ⟨a, u, h2, h3, h4⟩ := s'.own j o hS
            rw [h1] at h2; cases h2
            exact ⟨_, u, rfl, h3, h4, h1⟩
        cases o with
        | frz o =>
          have sub : ∀ {H' F' α'} {a : Addr} {u : HO}, StOk p F' α' S1 H' → α'[j]? = some a → H' a = some u → OU p F' α' (.frz o) u → F' a = some u → ∃ ob w, u = .frz ob w ∧ OU p F' α' o w := fun {H' F' α' a u} s' h1 h2 h3 h4 => by
            cases u with
            | frz ob w => exact ⟨ob, w, rfl, h3⟩
            | _ => exact h3.elim
          cases o with
          | lst ds =>
            simp only [bItems, hS] at q
            exact (pi_list pe).run pins s σ H R I ⟨F, α, S, ρ, st, en, by
              rw [hf]
              intro v H' F' α' x s' r
              obtain ⟨a, u, rfl, h2, h3, h4⟩ := look s' r
              cases u with
              | frz ob w =>
                cases w with
                | lst vs =>
                  have hF : F' a = some (.frz ob (.lst vs)) ∨ F' a = none := by
                    rcases s'.out j a h4 with e | ⟨ob', w', fw', e⟩
                    · exact .inr e
                    · have := s'.sub _ _ e
                      rw [h2, ung_frz fw'] at this; cases this
                      exact .inl e
                  have hq : SqL X.K H' a vs := .inl (.inr ⟨ob, h2⟩)
                  rcases hF with hF | hF
                  · exact ⟨_, rfl, ⟨_, hq⟩, by rw [K]; exact q _ H' F' α' x s' (it_lst (.inr ⟨ob, hF⟩) h3)⟩
                  · obtain ⟨F2, g1, g2, g3⟩ := s'.hold h4 h2 (fun _ _ z => nomatch z)
                    exact ⟨_, rfl, ⟨_, hq⟩, by rw [K]; exact q _ H' F2 α' (x.trans g3) g2 (it_lst (.inr ⟨ob, g1⟩) (Rps.ext g3 _ _ h3))⟩
                | _ => exact (show False from h3).elim
              | _ => exact (show False from h3).elim⟩
          | dK kvs =>
            simp only [bItems, hS] at q
            exact (pi_keys pe).run pins s σ H R I ⟨F, α, S, ρ, st, en, by
              rw [hf]
              intro v H' F' α' x s' r
              obtain ⟨a, u, rfl, h2, h3, h4⟩ := look s' r
              cases u with
              | frz ob w =>
                cases w with
                | dK kws =>
                  obtain ⟨F2, g1, g2, g3⟩ := s'.hold h4 h2 (fun _ _ z => nomatch z)
                  exact ⟨a, ob, rfl, .inl ⟨kws, h2, q _ H' F2 α' (x.trans g3) g2 (it_keys g1 (kvR.ext g3 h3))⟩⟩
                | _ => exact (show False from h3).elim
              | _ => exact (show False from h3).elim⟩
          | dT kvs =>
            simp only [bItems, hS] at q
            exact (pi_keys pe).run pins s σ H R I ⟨F, α, S, ρ, st, en, by
              rw [hf]
              intro v H' F' α' x s' r
              obtain ⟨a, u, rfl, h2, h3, h4⟩ := look s' r
              cases u with
              | frz ob w =>
                cases w with
                | dT kws =>
                  obtain ⟨F2, g1, g2, g3⟩ := s'.hold h4 h2 (fun _ _ z => nomatch z)
                  exact ⟨a, ob, rfl, .inr ⟨kws, h2, q _ H' F2 α' (x.trans g3) g2 (it_keysT g1 (kvR.ext g3 h3))⟩⟩
                | _ => exact (show False from h3).elim
              | _ => exact (show False from h3).elim⟩
          | _ => simp only [bItems, hS] at q; exact q.elim
        | _ => simp only [bItems, hS] at q; exact q.elim
    | _ => exact q.elim
end
end GB
/-! range; for; while; what is locked while it is walked. -/
namespace GB
open PySem L2
/-- a range's bounds (told by a word that no one looks into: numbers that large are not to be counted through) -/
theorem rng_ex : ∃ f : Int → Prop, ∀ j, f j ↔ (-(2 ^ 62) ≤ j ∧ j < 2 ^ 62) := ⟨_, fun _ => Iff.rfl⟩
noncomputable def rngOk (j : Int) : Prop := Classical.choose rng_ex j
theorem rngOk_iff (j : Int) : rngOk j ↔ (-(2 ^ 62) ≤ j ∧ j < 2 ^ 62) := Classical.choose_spec rng_ex j
open Classical in
noncomputable def bRange1 : List D → Sto → R (List D)
  | [.int j], S => if rngOk j then .ok ((List.range j.toNat).map fun i => .int (i : Nat)) S else .no
  | _, _ => .no
open Classical in
noncomputable def bRange2 : List D → Sto → R (List D)
  | [.int i, .int j], S => if rngOk i ∧ rngOk j then .ok ((List.range (j - i).toNat).map fun m => .int (i + (m : Nat))) S else .no
  | _, _ => .no
theorem bRange1_ok {j : Int} {S : Sto} (h : -(2 ^ 62) ≤ j ∧ j < 2 ^ 62) : bRange1 [.int j] S = .ok ((List.range j.toNat).map fun i => .int (i : Nat)) S := if_pos ((rngOk_iff j).mpr h)
theorem bRange2_ok {i j : Int} {S : Sto} (h : -(2 ^ 62) ≤ i ∧ i < 2 ^ 62) (g : -(2 ^ 62) ≤ j ∧ j < 2 ^ 62) : bRange2 [.int i, .int j] S = .ok ((List.range (j - i).toNat).map fun m => .int (i + (m : Nat))) S := if_pos ⟨(rngOk_iff i).mpr h, (rngOk_iff j).mpr g⟩
def semArg (op : List D → Sto → R (List D)) (fa : SemA) : SemA := fun ρ S => (fa ρ S).bind op
/-- a for loop's turns -/
def sLoop (g : SemG) (fb : SemS) : List D → SemS
  | [], ρ, S => .nx ρ S
  | d :: ds, ρ, S => match g d ρ S with
    | none => .no
    | some ρ1 => match fb ρ1 S with
      | .nx ρ2 S2 => sLoop g fb ds ρ2 S2
      | .ct ρ2 S2 => sLoop g fb ds ρ2 S2
      | .bk ρ2 S2 => .nx ρ2 S2
      | .rt d S2 => .rt d S2
      | .ex x ρ2 S2 => .ex x ρ2 S2
      | .no => .no
def sFor (fi : SemA) (g : SemG) (fb : SemS) : SemS := fun ρ S => match fi ρ S with
  | .ok ds S1 => sLoop g fb ds ρ S1
  | .ex x S1 => .ex x ρ S1
  | .no => .no
/-- a while loop's turns, n at most -/
def sWhileN (c : Sem) (fb : SemS) : Nat → SemS
  | 0, _, _ => .no
  | n + 1, ρ, S => match c ρ S with
    | .ok (.bl true) S1 => (match fb ρ S1 with
      | .nx ρ2 S2 => sWhileN c fb n ρ2 S2
      | .ct ρ2 S2 => sWhileN c fb n ρ2 S2
      | .bk ρ2 S2 => .nx ρ2 S2
      | .rt d S2 => .rt d S2
      | .ex x ρ2 S2 => .ex x ρ2 S2
      | .no => .no)
    | .ok (.bl false) S1 => .nx ρ S1
    | .ok _ _ => .no
    | .ex x S1 => .ex x ρ S1
    | .no => .no
open Classical in
noncomputable def sWhile (c : Sem) (fb : SemS) : SemS := fun ρ S => if h : ∃ n, sWhileN c fb n ρ S ≠ .no then sWhileN c fb h.choose ρ S else .no
theorem sWhileN_mono {c : Sem} {fb : SemS} : ∀ {n m : Nat} {ρ : Env} {S : Sto}, n ≤ m → sWhileN c fb n ρ S ≠ .no → sWhileN c fb m ρ S = sWhileN c fb n ρ S
  | 0, _, _, _, _, h => absurd rfl h
  | n + 1, 0, _, _, h, _ => absurd h (by simp)
  | n + 1, m + 1, ρ, S, h, hn => by
    have hle : n ≤ m := by omega
    unfold sWhileN at hn ⊢
    cases hc : c ρ S with
    | no => rfl
    | ex x S1 => rfl
    | ok d S1 =>
      rw [hc] at hn
      cases d with
      | bl b =>
        cases b with
        | false => rfl
        | true =>
          dsimp only at hn ⊢
          cases hb : fb ρ S1 with
          | nx ρ2 S2 => rw [hb] at hn; exact sWhileN_mono hle hn
          | ct ρ2 S2 => rw [hb] at hn; exact sWhileN_mono hle hn
          | _ => rfl
      | _ => rfl
theorem sWhile_eq {c : Sem} {fb : SemS} {n : Nat} {ρ : Env} {S : Sto} {r : SR} (h : sWhileN c fb n ρ S = r) (hr : r ≠ .no) : sWhile c fb ρ S = r := by
  have ex : ∃ n, sWhileN c fb n ρ S ≠ .no := ⟨n, by rw [h]; exact hr⟩
  unfold sWhile
  rw [dif_pos ex]
  have h1 := ex.choose_spec
  rcases Nat.le_total ex.choose n with l | l
  · rw [← sWhileN_mono l h1]; exact h
  · rw [sWhileN_mono l (by rw [h]; exact hr)]; exact h
/-- the lock is taken away -/
def unlS (k : Nat) : SR → SR
  | .nx ρ S => (match S[k]? with
    | some (.frz o) => .nx ρ (S.set k o)
    | _ => .no)
  | .rt d S => (match S[k]? with
    | some (.frz o) => .rt d (S.set k o)
    | _ => .no)
  | .bk ρ S => (match S[k]? with
    | some (.frz o) => .bk ρ (S.set k o)
    | _ => .no)
  | .ct ρ S => (match S[k]? with
    | some (.frz o) => .ct ρ (S.set k o)
    | _ => .no)
  | .ex x ρ S => .ex x ρ S
  | .no => .no
def unlR (k : Nat) : R D → R D
  | .ok d S => (match S[k]? with
    | some (.frz o) => .ok d (S.set k o)
    | _ => .no)
  | .ex x S => .ex x S
  | .no => .no
/-- what name i names is locked meanwhile, if it is an object of the store -/
def sLock (i : Nat) (f : SemS) : SemS := fun ρ S => match ρ[i]? with
  | some (some (.own k)) => (match S[k]? with
    | some (.lst xs) => unlS k (f ρ (S.set k (.frz (.lst xs))))
    | some (.dK xs) => unlS k (f ρ (S.set k (.frz (.dK xs))))
    | some (.dT xs) => unlS k (f ρ (S.set k (.frz (.dT xs))))
    | _ => f ρ S)
  | _ => f ρ S
def eLock (i : Nat) (f : Sem) : Sem := fun ρ S => match ρ[i]? with
  | some (some (.own k)) => (match S[k]? with
    | some (.lst xs) => unlR k (f ρ (S.set k (.frz (.lst xs))))
    | some (.dK xs) => unlR k (f ρ (S.set k (.frz (.dK xs))))
    | some (.dT xs) => unlR k (f ρ (S.set k (.frz (.dT xs))))
    | _ => f ρ S)
  | _ => f ρ S
section
variable {p : Pc} {N : List Str} {k : Nat} {sc : Sco} {a b c e : Expr} {es : List Expr} {st : Stmt} {ss tt : List Stmt} {f g h : Sem} {fs gs : SemS} {fa : SemA} {pos pp : Pos}
theorem it_range {F : Hp} {α : List Addr} (lo : Int) (n : Nat) : ItOk p F α (Itr lo n) ((List.range n).map fun m => .int (lo + (m : Nat))) := fun F' α' S' H x s => by
  refine ⟨fun i d hd => ?_, fun i hi => by show n ≤ i; simpa using hi⟩
  rw [List.getElem?_map] at hd
  by_cases hi : i < n
  · rw [List.getElem?_range hi] at hd
    cases hd
    exact ⟨hi, fun y H' ⟨e, hy⟩ => ⟨F', Ext.refl _ _, by rw [e]; exact s, by rw [hy]; exact .int _⟩⟩
  · rw [List.getElem?_eq_none (by simpa using hi)] at hd; cases hd
theorem LI.args {W : WX} {σ : L2.St} {H : Hp} {op : List D → Sto → R (List D)} {R : It → Hp → Prop} (h : LI p W (semArg op fa) σ H R) :
    LA p W fa σ H fun vs H1 => ∃ F α S ds, StOk p F α S H1 ∧ Rps p F α vs ds ∧ SatI p F α (op ds S) R fun c d H' => W c d σ H' := by
  obtain ⟨F, α, S, ρ, s, e, q⟩ := h
  refine ⟨F, α, S, ρ, s, e, ?_⟩
  unfold semArg at q
  cases hf : fa ρ S with
  | no => rw [hf] at q; exact q.elim
  | ex x S1 => rw [hf] at q; exact q
  | ok ds S1 =>
    rw [hf] at q
    have q : SatI p F α (op ds S1) R fun c d H' => W c d σ H' := q
    intro vs H1 F1 α1 x s1 r
    refine ⟨F1, α1, S1, ds, s1, r, ?_⟩
    cases ho : op ds S1 with
    | no => rw [ho] at q; exact q.elim
    | ex y S2 => rw [ho] at q; exact fun cls dd H' F' α' x' => q cls dd H' F' α' (x.trans x')
    | ok ys S2 => rw [ho] at q; exact fun J H' F' α' x' => q J H' F' α' (x.trans x')
theorem LA.imp {W : WX} {σ : L2.St} {H : Hp} {Q Q' : List V → Hp → Prop} (h : LA p W fa σ H Q) (i : ∀ vs H, Q vs H → Q' vs H) : LA p W fa σ H Q' := by
  obtain ⟨F, α, S, ρ, s, e, q⟩ := h
  exact ⟨F, α, S, ρ, s, e, q.imp i fun _ _ _ z => z⟩
theorem ji_range1 {tg : Expr} (hm : p.mg ("range" : Str) = none) (ha : JA p N k sc [a] fa) (hg : sc.names.lookup ("range" : Str) = some .globalImplicit := by rfl) (hs : ∀ env, starEach [a] env = [(false, eval a env)] := by intro _; rfl) : JI p N k sc tg (.Call (.Name "range" pp) [a] [] pos) (semArg bRange1 fa) := fun W X c => by
  refine PI.imp (pi_range1 (by show X.env.scope.names.lookup _ = _; rw [c.hsc]; exact hg) (by rw [c.mg]; exact hm) (ha W X c) (hs _)) fun σ H R h => ?_
  refine LA.imp h.args fun vs H1 ⟨F, α, S, ds, s, r, q⟩ => ?_
  unfold bRange1 at q
  split at q
  · split at q
    · rename_i hb
      have hb := (rngOk_iff _).mp hb
      obtain ⟨v, rfl, r1⟩ := one_of r
      cases r1
      refine ⟨_, rfl, hb.1, hb.2, q _ H1 F α (Ext.refl F α) s ?_⟩
      have := it_range (p := p) (F := F) (α := α) 0
      simpa using this _
    · exact q.elim
  · exact q.elim
theorem ji_range2 {tg : Expr} (hm : p.mg ("range" : Str) = none) (ha : JA p N k sc [a, b] fa) (hg : sc.names.lookup ("range" : Str) = some .globalImplicit := by rfl) (hs : ∀ env, starEach [a, b] env = [(false, eval a env), (false, eval b env)] := by intro _; rfl) (hs2 : ∀ env, starEach [b] env = [(false, eval b env)] := by intro _; rfl) :
    JI p N k sc tg (.Call (.Name "range" pp) [a, b] [] pos) (semArg bRange2 fa) := fun W X c => by
  refine PI.imp (pi_range2 (by show X.env.scope.names.lookup _ = _; rw [c.hsc]; exact hg) (by rw [c.mg]; exact hm) (ha W X c) (hs _) (hs2 _)) fun σ H R h => ?_
  refine LA.imp h.args fun vs H1 ⟨F, α, S, ds, s, r, q⟩ => ?_
  unfold bRange2 at q
  split at q
  · split at q
    · rename_i hb
      have hb1 := (rngOk_iff _).mp hb.1
      have hb2 := (rngOk_iff _).mp hb.2
      obtain ⟨v, w, rfl, r1, r2⟩ := two_of r
      cases r1; cases r2
      exact ⟨_, _, rfl, ⟨hb1.1, hb1.2, hb2.1, hb2.2⟩, q _ H1 F α (Ext.refl F α) s (it_range _ _)⟩
    · exact q.elim
  · exact q.elim
theorem js_for {tg : Expr} {xs : List Str} {is : List Nat} {fi : SemA} {gg : SemG} {fb : SemS} {body : List Stmt} (hi : JI p N k sc tg e fi) (hg : JG p N k sc xs tg is gg) (hb : JSs p N k sc body fb)
    (hs : ∀ env x, foldedSetIterable e env x = pure x := by intro _ _; rfl) : JS p N k sc (.For tg e body [] pos) (sFor fi gg fb) := fun W X c => by
  refine PS.imp (ps_for c.pas c.c.calm (hi W X c.c) (hg W X c.c (c.fns _)) (hb W X c) (hs _)) fun Dn σ H ⟨F, α, S, ρ, s, e, q⟩ => ?_
  refine ⟨F, α, S, ρ, s, e, ?_⟩
  unfold sFor at q
  cases hf : fi ρ S with
  | no => rw [hf] at q; exact q.elim
  | ex x S1 =>
    rw [hf] at q
    exact fun cls dd H1 F1 α1 x s1 r => q σ cls dd H1 F1 α1 x s1 (e.ext x) r
  | ok ds S1 =>
    rw [hf] at q
    intro J H1 F1 α1 x1 s1 it
    refine ⟨fun i m σ H => m = ds.length - i ∧ i ≤ ds.length ∧ ∃ F2 α2 S2 ρ2, Ext F1 α1 F2 α2 ∧ StOk p F2 α2 S2 H ∧ EnvOk p F2 α2 σ ρ2 ∧ SatS p W F2 α2 (sLoop gg fb (ds.drop i) ρ2 S2) Dn,
      ⟨ds.length, by simp, Nat.zero_le _, F1, α1, S1, ρ, Ext.refl _ _, s1, e.ext x1, q.ext x1⟩, ?_⟩
    rintro i m σ2 H2 ⟨rfl, hi, F2, α2, S2, ρ2, x2, s2, e2, q2⟩
    have it2 := it F2 α2 S2 H2 x2 s2
    by_cases hlt : i < ds.length
    · have hd : ds[i]? = some ds[i] := by simp [hlt]
      rw [List.drop_eq_getElem_cons hlt] at q2
      obtain ⟨go, yl⟩ := it2.1 i _ hd
      refine .inr ⟨go, _, fun σ' H' w => ⟨ds.length - (i + 1), by omega, w⟩, fun y H' hy => ?_⟩
      obtain ⟨F3, x3, s3, r3⟩ := yl y H' hy
      unfold sLoop at q2
      cases hgg : gg ds[i] ρ2 S2 with
      | none => rw [hgg] at q2; exact q2.elim
      | some ρ3 =>
        rw [hgg] at q2
        refine ⟨F3, α2, S2, ρ2, _, ρ3, s3, e2.ext x3, r3, hgg, fun σ' e3 _ => ⟨F3, α2, S2, ρ3, s3, e3, ?_⟩⟩
        dsimp only at q2
        cases hfb : fb ρ3 S2 with
        | nx ρ4 S4 =>
          rw [hfb] at q2
          exact fun σ4 H4 F4 α4 x4 s4 e4 => ⟨rfl, hlt, F4, α4, S4, ρ4, (x2.trans x3).trans x4, s4, e4, q2.ext (x3.trans x4)⟩
        | ct ρ4 S4 =>
          rw [hfb] at q2
          exact fun σ4 H4 F4 α4 x4 s4 e4 => ⟨rfl, hlt, F4, α4, S4, ρ4, (x2.trans x3).trans x4, s4, e4, q2.ext (x3.trans x4)⟩
        | bk ρ4 S4 =>
          rw [hfb] at q2
          exact fun σ4 H4 F4 α4 x4 s4 e4 => q2 σ4 H4 F4 α4 (x3.trans x4) s4 e4
        | rt d S4 => rw [hfb] at q2; exact q2.ext x3
        | ex y ρ4 S4 => rw [hfb] at q2; exact q2.ext x3
        | no => rw [hfb] at q2; exact q2.elim
    · have hi' : ds.length ≤ i := by omega
      refine .inl ⟨it2.2 i hi', ?_⟩
      rw [List.drop_eq_nil_of_le hi'] at q2
      exact q2.nx_here s2 e2
theorem js_while {fc : Sem} {fb : SemS} {body : List Stmt} (hc : JT p N k sc c fc) (hb : JSs p N k sc body fb) : JS p N k sc (.While c body [] pos) (sWhile fc fb) := fun W X c => by
  refine PS.imp (ps_while c.pas (hc W X c.c) (hb W X c)) fun Dn σ H ⟨F, α, S, ρ, s, e, q⟩ => ?_
  have hq : ∃ n, SatS p W F α (sWhileN fc fb n ρ S) Dn := by
    unfold sWhile at q
    split at q
    · exact ⟨_, q⟩
    · exact q.elim
  obtain ⟨n, hn⟩ := hq
  refine ⟨fun m σ H => ∃ F2 α2 S2 ρ2, StOk p F2 α2 S2 H ∧ EnvOk p F2 α2 σ ρ2 ∧ SatS p W F2 α2 (sWhileN fc fb m ρ2 S2) Dn, ⟨n, F, α, S, ρ, s, e, hn⟩, ?_⟩
  rintro m σ2 H2 ⟨F2, α2, S2, ρ2, s2, e2, q2⟩
  cases m with
  | zero => exact q2.elim
  | succ m =>
    refine ⟨F2, α2, S2, ρ2, s2, e2, ?_⟩
    unfold sWhileN at q2
    cases hfc : fc ρ2 S2 with
    | no => rw [hfc] at q2; exact q2.elim
    | ex y S3 =>
      rw [hfc] at q2
      exact fun cls dd H1 F1 α1 x s1 r => q2 σ2 cls dd H1 F1 α1 x s1 (e2.ext x) r
    | ok d S3 =>
      rw [hfc] at q2
      intro v H3 F3 α3 x3 s3 r3
      cases d with
      | bl b =>
        cases r3
        refine ⟨b, rfl, ?_⟩
        cases b with
        | false =>
          rw [if_neg (by decide)]
          exact q2 σ2 H3 F3 α3 x3 s3 (e2.ext x3)
        | true =>
          rw [if_pos rfl]
          dsimp only at q2
          refine ⟨_, fun σ' H' w => ⟨m, Nat.lt_succ_self _, w⟩, F3, α3, S3, ρ2, s3, e2.ext x3, ?_⟩
          cases hfb : fb ρ2 S3 with
          | nx ρ4 S4 =>
            rw [hfb] at q2
            exact fun σ4 H4 F4 α4 x4 s4 e4 => ⟨F4, α4, S4, ρ4, s4, e4, q2.ext (x3.trans x4)⟩
          | ct ρ4 S4 =>
            rw [hfb] at q2
            exact fun σ4 H4 F4 α4 x4 s4 e4 => ⟨F4, α4, S4, ρ4, s4, e4, q2.ext (x3.trans x4)⟩
          | bk ρ4 S4 =>
            rw [hfb] at q2
            exact fun σ4 H4 F4 α4 x4 s4 e4 => q2 σ4 H4 F4 α4 (x3.trans x4) s4 e4
          | rt d S4 => rw [hfb] at q2; exact q2.ext x3
          | ex y ρ4 S4 => rw [hfb] at q2; exact q2.ext x3
          | no => rw [hfb] at q2; exact q2.elim
      | _ => exact q2.elim

/-! ### locks -/
theorem lock_of {F : Hp} {α : List Addr} {S : Sto} {H : Hp} (s : StOk p F α S H) {j : Nat} {o : O} (hS : S[j]? = some o) (ho : (∃ xs, o = .lst xs) ∨ (∃ xs, o = .dK xs) ∨ ∃ xs, o = .dT xs) :
    ∃ q u, α[j]? = some q ∧ H q = some u ∧ Mut (some u) ∧ F q = none ∧ OU p F α o u ∧ Flat u := by
  obtain ⟨q, u, h1, h2, h3⟩ := s.own j o hS
  have mu : Mut (some u) ∧ Flat u := by
    rcases ho with ⟨xs, rfl⟩ | ⟨xs, rfl⟩ | ⟨xs, rfl⟩
    · cases u <;> first | exact ⟨trivial, fun _ _ z => nomatch z⟩ | exact (show False from h3).elim
    · cases u <;> first | exact ⟨trivial, fun _ _ z => nomatch z⟩ | exact (show False from h3).elim
    · cases u <;> first | exact ⟨trivial, fun _ _ z => nomatch z⟩ | exact (show False from h3).elim
  exact ⟨q, u, h1, h2, mu.1, s.loose h1 h2 mu.2, h3, mu.2⟩
theorem unl_of {F1 : Hp} {α1 : List Addr} {S1 : Sto} {H1 : Hp} {j : Nat} {q : Addr} {ob : Obj} {u : HO} (s1 : StOk p F1 α1 S1 H1) (hk : α1[j]? = some q) (hF : F1 q = some (.frz ob u)) (fu : Flat u) {o : O} (ho : S1[j]? = some (.frz o)) {F0 : Hp} {α0 : List Addr} (x : Ext F0 α0 F1 α1) (h0 : F0 q = none) :
    ∃ F', StOk p F' α1 (S1.set j o) (upd H1 q u) ∧ ExtW F1 α1 F' α1 ∧ Ext F0 α0 F' α1 ∧ H1 q = some (.frz ob u) := by
  obtain ⟨F', a, b, c, d⟩ := s1.unlock hk hF fu ho
  exact ⟨F', a, b, d _ _ x h0, by rw [s1.sub _ _ hF, ung_frz fu]⟩
theorem EnvOk.extW {F F' : Hp} {α α' : List Addr} {σ : L2.St} {ρ : Env} (x : ExtW F α F' α') (h : EnvOk p F α σ ρ) : EnvOk p F' α' σ ρ :=
  ⟨fun i d e => let ⟨v, h1, h2⟩ := h.at_ i d e; ⟨v, h1, Rp.extW x _ _ h2⟩, h.len⟩
theorem lockS {W : WX} {fs : SemS} {F : Hp} {α : List Addr} {S : Sto} {ρ : Env} {σ : L2.St} {H : Hp} {Dn : Ends} (s : StOk p F α S H) (e : EnvOk p F α σ ρ) {j : Nat} {o : O} (hS : S[j]? = some o) (ho : (∃ xs, o = .lst xs) ∨ (∃ xs, o = .dK xs) ∨ ∃ xs, o = .dT xs)
    (h : SatS p W F α (unlS j (fs ρ (S.set j (.frz o)))) Dn) : tLock (LS p W fs) Dn σ H := by
  obtain ⟨q, u, h1, h2, mu, h3, h4, fu⟩ := lock_of s hS ho
  refine ⟨q, u, h2, mu, fun ob => ?_⟩
  obtain ⟨s', x'⟩ := s.lock h1 h3 h4 fu ob
  refine ⟨_, α, _, ρ, s', e.ext x', ?_⟩
  have at1 : ∀ {F1 : Hp} {α1 : List Addr}, Ext (upd F q (.frz ob u)) α F1 α1 → α1[j]? = some q ∧ F1 q = some (.frz ob u) := fun {F1 α1} x1 => ⟨x1.a _ _ h1, x1.f _ _ upd_same⟩
  cases hr : fs ρ (S.set j (.frz o)) with
  | no => rw [hr] at h; exact h.elim
  | ex y ρ1 S1 =>
    rw [hr] at h
    exact fun σ1 cls dd H1 F1 α1 x1 s1 e1 r1 => h σ1 cls dd H1 F1 α1 (x'.trans x1) s1 e1 r1
  | nx ρ1 S1 =>
    rw [hr] at h
    intro σ1 H1 F1 α1 x1 s1 e1
    obtain ⟨k1, k2⟩ := at1 x1
    unfold unlS at h
    split at h
    · rename_i hh
      cases hh
      split at h
      · rename_i o1 ho1
        obtain ⟨F', g1, g2, g3, g4⟩ := unl_of s1 k1 k2 fu ho1 (x'.trans x1) h3
        exact ⟨g4, h σ1 _ F' α1 g3 g1 (e1.extW g2)⟩
      · exact h.elim
    all_goals (rename_i hh; cases hh)
  | bk ρ1 S1 =>
    rw [hr] at h
    intro σ1 H1 F1 α1 x1 s1 e1
    obtain ⟨k1, k2⟩ := at1 x1
    unfold unlS at h
    split at h
    case h_3 hh =>
      cases hh
      split at h
      · rename_i o1 ho1
        obtain ⟨F', g1, g2, g3, g4⟩ := unl_of s1 k1 k2 fu ho1 (x'.trans x1) h3
        exact ⟨g4, h σ1 _ F' α1 g3 g1 (e1.extW g2)⟩
      · exact h.elim
    all_goals (rename_i hh; cases hh)
  | ct ρ1 S1 =>
    rw [hr] at h
    intro σ1 H1 F1 α1 x1 s1 e1
    obtain ⟨k1, k2⟩ := at1 x1
    unfold unlS at h
    split at h
    case h_4 hh =>
      cases hh
      split at h
      · rename_i o1 ho1
        obtain ⟨F', g1, g2, g3, g4⟩ := unl_of s1 k1 k2 fu ho1 (x'.trans x1) h3
        exact ⟨g4, h σ1 _ F' α1 g3 g1 (e1.extW g2)⟩
      · exact h.elim
    all_goals (rename_i hh; cases hh)
  | rt d1 S1 =>
    rw [hr] at h
    intro v1 H1 F1 α1 x1 s1 r1
    obtain ⟨k1, k2⟩ := at1 x1
    unfold unlS at h
    split at h
    case h_2 hh =>
      cases hh
      split at h
      · rename_i o1 ho1
        obtain ⟨F', g1, g2, g3, g4⟩ := unl_of s1 k1 k2 fu ho1 (x'.trans x1) h3
        exact ⟨g4, h v1 _ F' α1 g3 g1 (Rp.extW g2 _ _ r1)⟩
      · exact h.elim
    all_goals (rename_i hh; cases hh)
theorem js_lock (i : Nat) (h : JS p N k sc st fs) : JS p N k sc st (sLock i fs) := fun W X c => by
  have h1 := h W X c
  have h2 := ps_lock h1
  refine ⟨fun pins s σ H D I q => ?_⟩
  obtain ⟨F, α, S, ρ, s', e, q⟩ := q
  unfold sLock at q
  split at q
  · split at q
    · rename_i hS; exact h2.run pins s σ H D I (lockS s' e hS (.inl ⟨_, rfl⟩) q)
    · rename_i hS; exact h2.run pins s σ H D I (lockS s' e hS (.inr (.inl ⟨_, rfl⟩)) q)
    · rename_i hS; exact h2.run pins s σ H D I (lockS s' e hS (.inr (.inr ⟨_, rfl⟩)) q)
    · exact h1.run pins s σ H D I ⟨F, α, S, ρ, s', e, q⟩
  · exact h1.run pins s σ H D I ⟨F, α, S, ρ, s', e, q⟩
theorem lockE {W : WX} {f : Sem} {F : Hp} {α : List Addr} {S : Sto} {ρ : Env} {σ : L2.St} {H : Hp} {Q : VK} (s : StOk p F α S H) (e : EnvOk p F α σ ρ) {j : Nat} {o : O} (hS : S[j]? = some o) (ho : (∃ xs, o = .lst xs) ∨ (∃ xs, o = .dK xs) ∨ ∃ xs, o = .dT xs)
    (h : Sat p F α (unlR j (f ρ (S.set j (.frz o)))) Q fun c d H' => W c d σ H') : tLockE (LE p W f) σ H Q := by
  obtain ⟨q, u, h1, h2, mu, h3, h4, fu⟩ := lock_of s hS ho
  refine ⟨q, u, h2, mu, fun ob => ?_⟩
  obtain ⟨s', x'⟩ := s.lock h1 h3 h4 fu ob
  refine ⟨_, α, _, ρ, s', e.ext x', ?_⟩
  have at1 : ∀ {F1 : Hp} {α1 : List Addr}, Ext (upd F q (.frz ob u)) α F1 α1 → α1[j]? = some q ∧ F1 q = some (.frz ob u) := fun {F1 α1} x1 => ⟨x1.a _ _ h1, x1.f _ _ upd_same⟩
  cases hr : f ρ (S.set j (.frz o)) with
  | no => rw [hr] at h; exact h.elim
  | ex y S1 =>
    rw [hr] at h
    exact fun cls dd H1 F1 α1 x1 s1 r1 => h cls dd H1 F1 α1 (x'.trans x1) s1 r1
  | ok d1 S1 =>
    rw [hr] at h
    intro v1 H1 F1 α1 x1 s1 r1
    obtain ⟨k1, k2⟩ := at1 x1
    have h : Sat p F α (match S1[j]? with | some (.frz o) => .ok d1 (S1.set j o) | _ => .no) Q fun c d H' => W c d σ H' := h
    split at h
    · rename_i o1 ho1
      obtain ⟨F', g1, g2, g3, g4⟩ := unl_of s1 k1 k2 fu ho1 (x'.trans x1) h3
      exact ⟨g4, h v1 _ F' α1 g3 g1 (Rp.extW g2 _ _ r1)⟩
    · exact h.elim
theorem je_lock (i : Nat) (h : JE p N k sc e f) : JE p N k sc e (eLock i f) := fun W X c => by
  have h1 := h W X c
  have h2 := pe_lock h1
  refine ⟨fun pins s σ H D I q => ?_⟩
  obtain ⟨F, α, S, ρ, s', e, q⟩ := q
  unfold eLock at q
  split at q
  · split at q
    · rename_i hS; exact h2.run pins s σ H D I (lockE s' e hS (.inl ⟨_, rfl⟩) q)
    · rename_i hS; exact h2.run pins s σ H D I (lockE s' e hS (.inr (.inl ⟨_, rfl⟩)) q)
    · rename_i hS; exact h2.run pins s σ H D I (lockE s' e hS (.inr (.inr ⟨_, rfl⟩)) q)
    · exact h1.run pins s σ H D I ⟨F, α, S, ρ, s', e, q⟩
  · exact h1.run pins s σ H D I ⟨F, α, S, ρ, s', e, q⟩
end
end GB
/-! List comprehensions of one clause. -/
namespace GB
open PySem L2
def wipeE (ρ : Env) : List Nat → Env
  | [] => ρ
  | v :: vs => (wipeE ρ vs).set v none
/-- a comprehension's turns: the items of the new list -/
def cLoop (g : SemG) (ft fe : Sem) (ρ : Env) : List D → Sto → R (List D)
  | [], S => .ok [] S
  | d :: ds, S => match g d ρ S with
    | none => .no
    | some ρ1 => match ft ρ1 S with
      | .ok (.bl true) S1 => (match fe ρ1 S1 with
        | .ok y S2 => (cLoop g ft fe ρ ds S2).bind fun ys S3 => .ok (y :: ys) S3
        | _ => .no)
      | .ok (.bl false) S1 => cLoop g ft fe ρ ds S1
      | _ => .no
/-- what becomes of the items: a list that is data; a list of the store -/
def finD (xs : List D) (S : Sto) : R D := .ok (.lst xs) S
def finO (xs : List D) (S : Sto) : R D := .ok (.own S.length) (S ++ [.lst xs])
def semLc (fin : List D → Sto → R D) (fi : SemA) (vs : List Nat) (g : SemG) (ft fe : Sem) : Sem := fun ρ S =>
  (fi ρ S).bind fun ds S1 => if ds.length ≤ sizeLine then (cLoop g ft fe (wipeE ρ vs) ds S1).bind fin else .no
section
variable {p : Pc}
theorem wipe_get {σ : L2.St} : ∀ {vs : List Nat} {j : Nat}, j ∉ vs → (wipe σ vs)[j]? = σ[j]?
  | [], _, _ => rfl
  | v :: vs, j, h => by
    unfold wipe
    rw [List.getElem?_set_ne (fun z => h (by simp [z]))]
    exact wipe_get fun z => h (List.mem_cons_of_mem _ z)
theorem wipe_none {σ : L2.St} : ∀ {vs : List Nat} {j : Nat}, j ∈ vs → j < σ.length → (wipe σ vs)[j]? = some none
  | v :: vs, j, h, hl => by
    unfold wipe
    by_cases e : v = j
    · subst e
      rw [List.getElem?_set_self (by rw [wipe_length]; exact hl)]
    · rw [List.getElem?_set_ne e]
      rcases List.mem_cons.mp h with z | z
      · exact absurd z.symm e
      · exact wipe_none z hl
theorem wipe_same {σ σ' : L2.St} {vs : List Nat} (hl : σ'.length = σ.length) (h : ∀ j, j ∉ vs → σ'[j]? = σ[j]?) : wipe σ' vs = wipe σ vs := by
  apply List.ext_getElem?
  intro j
  by_cases hj : j ∈ vs
  · by_cases hlt : j < σ.length
    · rw [wipe_none hj hlt, wipe_none hj (by rw [hl]; exact hlt)]
    · rw [List.getElem?_eq_none (by rw [wipe_length, hl]; omega), List.getElem?_eq_none (by rw [wipe_length]; omega)]
  · rw [wipe_get hj, wipe_get hj, h j hj]
theorem EnvOk.wipe {F : Hp} {α : List Addr} {σ : L2.St} {ρ : Env} (h : EnvOk p F α σ ρ) : ∀ vs : List Nat, EnvOk p F α (wipe σ vs) (wipeE ρ vs)
  | [] => h
  | v :: vs => (EnvOk.wipe h vs).unset v
theorem StOk.newGuard {F : Hp} {α : List Addr} {S : Sto} {H : Hp} (s : StOk p F α S H) {q : Addr} (hq : H q = none) (xs : List V) : StOk p (upd F q (guard (.lst xs))) α S (upd H q (.lst xs)) ∧ Ext F α (upd F q (guard (.lst xs))) α := by
  have fq := s.free hq
  have x : Ext F α (upd F q (guard (.lst xs))) α := ⟨fun a u e => by rw [upd_ne (ne_of_none e fq)]; exact e, fun _ _ h => h⟩
  have nq : ∀ {k a}, α[k]? = some a → a ≠ q := fun {k a} h z => by
    obtain ⟨u, hu⟩ := s.there h
    rw [z, hq] at hu; cases hu
  refine ⟨⟨fun a u e => ?_, fun k u e => ?_, fun k a h => ?_, s.inj, s.len, fun a ob ob' u e => ?_, s.tb.new hq (upd_or (by intro _ z; cases z))⟩, x⟩
  · by_cases h : a = q
    · subst h; rw [upd_same] at e ⊢; cases e; rfl
    · rw [upd_ne h] at e ⊢; exact s.sub _ _ e
  · obtain ⟨a, v, h1, h2, h3⟩ := s.own k u e
    exact ⟨a, v, h1, by rw [upd_ne (nq h1)]; exact h2, h3.ext x⟩
  · rw [upd_ne (nq h)]; exact s.out k a h
  · by_cases h : a = q
    · subst h; rw [upd_same] at e; cases e; exact ⟨_, rfl⟩
    · rw [upd_ne h] at e; exact s.gd _ _ _ _ e
theorem StOk.noGuard {F : Hp} {α : List Addr} {S : Sto} {H : Hp} (s : StOk p F α S H) {q : Addr} {u : HO} (hq : F q = some (guard u)) {k : Nat} {a : Addr} (h : α[k]? = some a) : a ≠ q := fun z => by
  rcases s.out k a h with e | ⟨ob, w, f, e⟩
  · rw [z, hq] at e; cases e
  · rw [z, hq] at e; cases e; exact f _ _ rfl
/-- the guarded list is written, or becomes data -/
theorem StOk.reGuard {F : Hp} {α : List Addr} {S : Sto} {H : Hp} (s : StOk p F α S H) {q : Addr} {xs ys : List V} (hq : F q = some (guard (.lst xs))) {o : HO} (ho : o = guard (.lst ys) ∨ o = .lst ys) :
    StOk p (upd F q o) α S (upd H q (.lst ys)) ∧ ExtW F α (upd F q o) α := by
  have x : ExtW F α (upd F q o) α := ⟨fun a u e hn => by
    have : a ≠ q := fun z => by rw [z, hq] at e; exact hn _ _ (Option.some.inj e).symm
    rw [upd_ne this]; exact e, fun _ _ h => h⟩
  refine ⟨⟨fun a u e => ?_, fun k u e => ?_, fun k a h => ?_, s.inj, s.len, fun a ob ob' u e => ?_, s.tb.upd (fun w hw => by rw [s.sub _ _ hq] at hw; cases hw; exact NotT.lst _) (upd_or (by rcases ho with rfl | rfl <;> (intro _ z; cases z)))⟩, x⟩
  · by_cases h : a = q
    · subst h; rw [upd_same] at e ⊢
      cases e
      rcases ho with rfl | rfl <;> rfl
    · rw [upd_ne h] at e ⊢; exact s.sub _ _ e
  · obtain ⟨a, v, h1, h2, h3⟩ := s.own k u e
    exact ⟨a, v, h1, by rw [upd_ne (s.noGuard hq h1)]; exact h2, h3.extW x⟩
  · rw [upd_ne (s.noGuard hq h)]; exact s.out k a h
  · by_cases h : a = q
    · subst h; rw [upd_same] at e; cases e
      rcases ho with z | z
      · cases z; exact ⟨_, rfl⟩
      · cases z
    · rw [upd_ne h] at e; exact s.gd _ _ _ _ e
/-- .. or becomes the store's -/
theorem StOk.ownGuard {F : Hp} {α : List Addr} {S : Sto} {H : Hp} (s : StOk p F α S H) {q : Addr} {xs : List V} {ds : List D} (hq : F q = some (guard (.lst xs))) (r : Rps p F α xs ds) :
    ∃ F', StOk p F' (α ++ [q]) (S ++ [.lst ds]) H ∧ ∀ F0 α0, Ext F0 α0 F α → F0 q = none → Ext F0 α0 F' (α ++ [q]) := by
  have hH := s.sub _ _ hq
  have up : ∀ (k : Nat) (b : Addr), α[k]? = some b → (α ++ [q])[k]? = some b := fun k b h => by rw [List.getElem?_append_left (List.getElem?_eq_some_iff.mp h).1]; exact h
  have w : ExtW F α (fun b => if b = q then none else F b) (α ++ [q]) := ⟨fun a v e hn => by
    have : a ≠ q := fun z => by rw [z, hq] at e; exact hn _ _ (Option.some.inj e).symm
    show (if a = q then none else F a) = _
    rw [if_neg this]; exact e, up⟩
  have at_ : ∀ {k a}, (α ++ [q])[k]? = some a → (α[k]? = some a) ∨ (k = α.length ∧ a = q) := fun {k a} h => by
    by_cases hk : k < α.length
    · rw [List.getElem?_append_left hk] at h; exact .inl h
    · rw [List.getElem?_append_right (by omega)] at h
      have : k - α.length = 0 := by
        cases e : k - α.length with
        | zero => rfl
        | succ n => rw [e] at h; simp at h
      rw [this] at h
      exact .inr ⟨by omega, by simpa using h.symm⟩
  refine ⟨fun b => if b = q then none else F b, ⟨fun a v e => ?_, fun k v e => ?_, fun k a h => ?_, fun i j a h1 h2 => ?_, by simp [s.len], fun a ob ob' u e => ?_, s.tb.sub fun a v e => .inl (by
    by_cases h : a = q
    · simp [h] at e
    · simpa only [if_neg h] using e)⟩, fun F0 α0 x h0 => ⟨fun a v e => ?_, fun k b h => up k b (x.a k b h)⟩⟩
  · by_cases h : a = q
    · simp [h] at e
    · simp only [if_neg h] at e; exact s.sub _ _ e
  · by_cases hk : k < S.length
    · rw [List.getElem?_append_left hk] at e
      obtain ⟨a, v, h1, h2, h3⟩ := s.own k v e
      exact ⟨a, v, up _ _ h1, h2, h3.extW w⟩
    · rw [List.getElem?_append_right (by omega)] at e
      have hk0 : k - S.length = 0 := by
        cases e' : k - S.length with
        | zero => rfl
        | succ n => rw [e'] at e; simp at e
      rw [hk0] at e
      have e' : O.lst ds = v := by simpa using e
      subst e'
      refine ⟨q, .lst xs, ?_, hH, Rps.extW w _ _ r⟩
      have : k = α.length := by rw [s.len]; omega
      rw [this]; simp
  · rcases at_ h with h | ⟨_, rfl⟩
    · have := s.noGuard hq h
      simp only [if_neg this]; exact s.out k a h
    · exact .inl (by simp)
  · rcases at_ h1 with h1 | ⟨e1, r1⟩
    · rcases at_ h2 with h2 | ⟨e2, r2⟩
      · exact s.inj _ _ _ h1 h2
      · exact absurd r2 (s.noGuard hq h1)
    · rcases at_ h2 with h2 | ⟨e2, r2⟩
      · exact absurd r1 (s.noGuard hq h2)
      · rw [e1, e2]
  · by_cases h : a = q
    · simp [h] at e
    · simp only [if_neg h] at e; exact s.gd _ _ _ _ e
  · have : a ≠ q := fun z => by rw [z, h0] at e; cases e
    simp only [if_neg this]; exact x.f a v e
theorem upd_self {H : Hp} {a : Addr} {o : HO} (h : H a = some o) : upd H a o = H := by
  funext b
  by_cases e : b = a
  · rw [e, upd_same, h]
  · rw [upd_ne e]
/-- what fin makes of the guarded list -/
def FinOk (p : Pc) (fin : List D → Sto → R D) : Prop := ∀ (F0 : Hp) (α0 : List Addr) (F : Hp) (α : List Addr) (S : Sto) (H : Hp) (q : Addr) (xs : List V) (ds : List D) (Q : VK) (E : XK), Ext F0 α0 F α → F0 q = none → StOk p F α S H → F q = some (guard (.lst xs)) → Rps p F α xs ds → Sat p F0 α0 (fin ds S) Q E → Q (.ref q) H
theorem finD_ok : FinOk p finD := by
  intro F0 α0 F α S H q xs ds Q E x h0 s hq r h
  obtain ⟨s', w⟩ := s.reGuard (ys := xs) hq (.inr rfl)
  have hH : H q = some (.lst xs) := s.sub _ _ hq
  rw [upd_self hH] at s'
  refine h _ H (upd F q (.lst xs)) α ⟨fun a o e => ?_, x.a⟩ s' (.lst (.inl upd_same) (Rps.extW w _ _ r))
  rw [upd_ne (ne_of_none e h0)]; exact x.f _ _ e
theorem finO_ok : FinOk p finO := by
  intro F0 α0 F α S H q xs ds Q E x h0 s hq r h
  obtain ⟨F', s', w⟩ := s.ownGuard hq r
  refine h _ H F' _ (w _ _ x h0) s' (.own ?_)
  rw [← s.len]; simp
theorem R.bind_assoc {α β γ : Type} (r : R α) (k : α → Sto → R β) (l : β → Sto → R γ) : (r.bind k).bind l = r.bind fun a S => (k a S).bind l := by
  cases r <;> rfl
/-- a block's scope -/
abbrev relD (scope : Scope) (sc : Sco) : Sco := ⟨relS scope sc.toScope, sc.own⟩
variable {N : List Str} {k : Nat} {sc : Sco} {elt tg iter c : Expr} {ifs : List Expr} {scope : Scope} {fi : SemA} {gg : SemG} {ft fe : Sem} {pos pp : Pos} {xs : List Str} {is : List Nat}
/-- a clause's tests -/
def JTs (p : Pc) (N : List Str) (k : Nat) (sc : Sco) (es : List Expr) (f : Sem) : Prop := ∀ W X, COk p N k sc W X → PTs X es (LT p W f)
theorem PTs.imp {X : Cx} {e : List Expr} {t t' : TT} (h : PTs X e t) (i : ∀ σ H Q, t' σ H Q → t σ H Q) : PTs X e t' := ⟨fun pins s σ H Q I hq => h.run pins s σ H Q I (i σ H Q hq)⟩
theorem jts_nil : JTs p N k sc [] (semC (.bl true)) := fun W X c => PTs.imp pts_nil fun σ H Q h => by
  obtain ⟨b, e, q⟩ := LE.const (v := .bl true) (fun _ _ => .bl true) h
  cases e; exact q
theorem jts_one (h : JT p N k sc c ft) : JTs p N k sc [c] ft := fun W X c => pts_one (h W X c)
/-- in a comprehension's block nothing is raised -/
def W0 : WX := fun _ _ _ _ => False
theorem COk.blk {W : WX} {X : Cx} (c : COk p N k sc W X) (s : Shared) (H : Hp) (C : Addr) (cl : List (Str × Addr)) (fp : List Addr) :
    COk p N k (relD scope sc) W0 (X.blk s H scope (PySem.compEnvC scope cl C X.env) fp) where
  prog := c.prog
  w := c.w
  K := c.K
  mg := c.mg
  base := c.base
  calm := c.calm
  hN := c.hN
  nd := c.nd
  hsc := by
    show relS scope X.env.scope = _
    rw [c.hsc]
  room := c.room
  tk := takes0
  cd := c.cd
theorem lc_core {W : WX} {fin : List D → Sto → R D} (hfin : FinOk p fin) {vs : List Nat} (hvs : ∀ i ∈ is, i ∈ vs) {σ : L2.St} {H : Hp} {Q : VK} (h : LE p W (semLc fin fi vs gg ft fe) σ H Q) :
    tLc (LI p W fi) (LG p is gg) (LT p W0 ft) (LE p W0 fe) vs σ H Q := by
  obtain ⟨F, α, S, ρ, s, e, q⟩ := h
  refine ⟨F, α, S, ρ, s, e, ?_⟩
  unfold semLc at q
  cases hf : fi ρ S with
  | no => rw [hf] at q; exact q.elim
  | ex x S1 => rw [hf] at q; exact q
  | ok ds S1 =>
    rw [hf] at q
    have q : Sat p F α (if ds.length ≤ sizeLine then (cLoop gg ft fe (wipeE ρ vs) ds S1).bind fin else .no) Q fun c d H' => W c d σ H' := q
    split at q
    case isFalse => exact q.elim
    rename_i hsz
    intro J H1 F1 α1 x1 s1 it L hL
    have q1 := q.ext x1
    obtain ⟨s1', x1'⟩ := s1.newGuard hL []
    have hL1 : F1 L = none := s1.free hL
    have e1 := (e.ext x1).wipe vs
    generalize hR : cLoop gg ft fe (wipeE ρ vs) ds S1 = RR at q1
    refine ⟨fun i m H => m = ds.length - i ∧ i ≤ ds.length ∧ ∃ F2 α2 S2 acc accD, Ext F1 α1 F2 α2 ∧ StOk p F2 α2 S2 H ∧ F2 L = some (guard (.lst acc)) ∧ acc.length ≤ i ∧ Rps p F2 α2 acc accD ∧
        ((cLoop gg ft fe (wipeE ρ vs) (ds.drop i) S2).bind fun ys S3 => .ok (accD ++ ys) S3) = RR,
      ⟨ds.length, by simp, Nat.zero_le _, _, α1, S1, [], [], x1', s1', upd_same, by simp, .nil, ?_⟩, ?_⟩
    · rw [List.drop_zero, hR]
      cases RR <;> rfl
    rintro i m H2 ⟨rfl, hi, F2, α2, S2, acc, accD, x2, s2, g2, l2, r2, q2⟩
    have it2 := it F2 α2 S2 H2 x2 s2
    have e2 := e1.ext x2
    by_cases hlt : i < ds.length
    · rw [List.drop_eq_getElem_cons hlt] at q2
      obtain ⟨go, yl⟩ := it2.1 i ds[i] (by simp [hlt])
      refine .inr ⟨go, _, fun H' w => ⟨ds.length - (i + 1), by omega, w⟩, fun y H' hy => ?_⟩
      obtain ⟨F3, x3, s3, r3⟩ := yl y H' hy
      have bad : ∀ {P : Prop}, RR = .no → P := fun {P} z => by
        rw [z] at q1; exact q1.elim
      unfold cLoop at q2
      cases hgg : gg ds[i] (wipeE ρ vs) S2 with
      | none => rw [hgg] at q2; exact bad q2.symm
      | some ρ3 =>
        rw [hgg] at q2
        refine ⟨F3, α2, S2, _, _, ρ3, s3, e2.ext x3, r3, hgg, fun σ' e3 fr => ⟨?_, F3, α2, S2, ρ3, s3, e3, ?_⟩⟩
        · have : wipe σ' vs = wipe (wipe σ vs) vs := wipe_same fr.1 fun j hj => fr.2 j fun z => hj (hvs j z)
          rw [this]
          exact wipe_same (wipe_length _ _) fun j hj => wipe_get hj
        · dsimp only at q2
          cases hft : ft ρ3 S2 with
          | no => rw [hft] at q2; exact bad q2.symm
          | ex y S3 => rw [hft] at q2; exact bad q2.symm
          | ok b S3 =>
            rw [hft] at q2
            cases b with
            | bl b =>
              intro v H4 F4 α4 x4 s4 r4
              cases r4
              refine ⟨b, rfl, ?_⟩
              cases b with
              | true =>
                rw [if_pos rfl]
                refine ⟨F4, α4, S3, ρ3, s4, e3.ext x4, ?_⟩
                dsimp only at q2
                cases hfe : fe ρ3 S3 with
                | no => rw [hfe] at q2; exact bad q2.symm
                | ex y S4 => rw [hfe] at q2; exact bad q2.symm
                | ok yd S4 =>
                  rw [hfe] at q2
                  intro y5 H5 F5 α5 x5 s5 r5
                  have g5 : F5 L = some (guard (.lst acc)) := x5.f _ _ (x4.f _ _ (x3.f _ _ g2))
                  have hL5 : H5 L = some (.lst acc) := s5.sub _ _ g5
                  obtain ⟨s6, w6⟩ := s5.reGuard (ys := acc ++ [y5]) g5 (.inl rfl)
                  have x15 : Ext F1 α1 F5 α5 := ((x2.trans x3).trans x4).trans x5
                  refine ⟨acc, hL5, by omega, rfl, hlt, _, α5, S4, acc ++ [y5], accD ++ [yd], ⟨fun a o ea => ?_, x15.a⟩, s6, upd_same, by simp; omega, ?_, ?_⟩
                  · rw [upd_ne (ne_of_none ea hL1)]; exact x15.f _ _ ea
                  · refine Rps.extW w6 _ _ (Rps.append ?_ (.cons r5 .nil))
                    exact Rps.ext x5 _ _ (Rps.ext x4 _ _ (Rps.ext x3 _ _ r2))
                  · rw [← q2]
                    dsimp only
                    rw [R.bind_assoc]
                    simp only [R.bind, List.append_assoc, List.singleton_append]
              | false =>
                rw [if_neg (by decide)]
                have x14 : Ext F1 α1 F4 α4 := (x2.trans x3).trans x4
                exact ⟨rfl, hlt, F4, α4, S3, acc, accD, x14, s4, x4.f _ _ (x3.f _ _ g2), by omega, Rps.ext x4 _ _ (Rps.ext x3 _ _ r2), q2⟩
            | _ => exact bad q2.symm
    · have hi' : ds.length ≤ i := by omega
      refine .inl ⟨it2.2 i hi', ?_⟩
      rw [List.drop_eq_nil_of_le hi'] at q2
      have q3 : RR = .ok accD S2 := by
        rw [← q2]
        show R.ok (accD ++ []) S2 = _
        rw [List.append_nil]
      rw [q3] at q1
      exact hfin F1 α1 F2 α2 S2 H2 L acc accD Q _ x2 hL1 s2 g2 r2 q1
theorem je_lc {fin : List D → Sto → R D} (hfin : FinOk p fin) (own : List (Str × Nat)) (hi : JI p N k sc tg iter fi) (hg : JG p N k (relD scope sc) xs tg is gg) (ht : JTs p N k (relD scope sc) ifs ft) (he : JE p N k (relD scope sc) elt fe)
    (ok : blkC N sc.toScope scope own = true := by decide +kernel) (hx : (xs.all fun x => decide ((relD scope sc).names.lookup x = some .local) || decide (scope.names.lookup x = some .cell)) = true := by decide +kernel) (hvs : (is.all fun i => decide (i ∈ own.map (·.2))) = true := by decide +kernel)
    (hs : ∀ env x, foldedSetIterable iter env x = pure x := by intro _ _; rfl) : JE p N k sc (.ListComp elt [⟨tg, iter, ifs, 0⟩] scope pos) (semLc fin fi (own.map (·.2)) gg ft fe) := fun W X c => by
  have fa : ∀ s H C cl fp, FnAt (X.blk s H scope (PySem.compEnvC scope cl C X.env) fp) (relD scope sc) xs := fun s H C cl fp x hxm => by
    rw [List.all_eq_true] at hx
    have := hx x hxm
    rw [Bool.or_eq_true, decide_eq_true_eq, decide_eq_true_eq] at this
    rcases this with h | h
    · exact .inr h
    · exact .inl (by show (scope.names.lookup x == some NameKind.cell) = true; rw [h]; decide)
  refine PE.imp (pe_lc (own := own) c.calm (by rw [c.hN]; exact c.nd) (hi W X c) (by rw [c.hN, c.hsc]; exact blkOk_by ok) (fun s H C cl fp => hg _ _ (c.blk s H C cl fp) (fa s H C cl fp)) (fun s H C cl fp => ht _ _ (c.blk s H C cl fp)) (fun s H C cl fp => he _ _ (c.blk s H C cl fp)) (hs _)) fun σ H Q h => ?_
  exact lc_core hfin (fun i hi => by rw [List.all_eq_true] at hvs; exact decide_eq_true_eq.mp (hvs i hi)) h
/-- name = [..] on one line -/
theorem js_setLc (i : Nat) {y : Str} {py spos : Pos} {fin : List D → Sto → R D} (hfin : FinOk p fin) (own : List (Str × Nat)) (hi : JI p N k sc tg iter fi) (hg : JG p N k (relD scope sc) xs tg is gg) (ht : JTs p N k (relD scope sc) ifs ft) (he : JE p N k (relD scope sc) elt fe)
    (hy : N[i]? = some y := by rfl) (hyl : sc.names.lookup y = some .local := by rfl) (hk : sc.kind = .function := by rfl) (hl : (py.line == pos.line) = true := by rfl) (ha : (scope.names.any fun (n, k) => n == y && (k == .local || k == .cell)) = false := by decide +kernel)
    (ok : blkC N sc.toScope scope own = true := by decide +kernel) (hx : (xs.all fun x => decide ((relD scope sc).names.lookup x = some .local) || decide (scope.names.lookup x = some .cell)) = true := by decide +kernel) (hvs : (is.all fun i => decide (i ∈ own.map (·.2))) = true := by decide +kernel)
    (hs : ∀ env x, foldedSetIterable iter env x = pure x := by intro _ _; rfl) : JS p N k sc (.Assign [.Name y py] (.ListComp elt [⟨tg, iter, ifs, 0⟩] scope pos) spos) (sAsg (semLc fin fi (own.map (·.2)) gg ft fe) (gNm i)) := fun W X sk => by
  have c := sk.c
  have fa : ∀ s H C cl fp, FnAt (X.blk s H scope (PySem.compEnvC scope cl C X.env) fp) (relD scope sc) xs := fun s H C cl fp x hxm => by
    rw [List.all_eq_true] at hx
    have := hx x hxm
    rw [Bool.or_eq_true, decide_eq_true_eq, decide_eq_true_eq] at this
    rcases this with h | h
    · exact .inr h
    · exact .inl (by show (scope.names.lookup x == some NameKind.cell) = true; rw [h]; decide)
  refine PS.imp (ps_setLc (i := i) (own := own) c.calm (by rw [c.hN]; exact c.nd) (by rw [c.hN]; exact hy) (by rw [c.hsc]; exact hyl) (sw_true (by rw [c.hsc]; exact hk) (by rw [c.hsc]; exact hyl) hl ha) (hi W X c) (by rw [c.hN, c.hsc]; exact blkOk_by ok) (fun s H C cl fp => hg _ _ (c.blk s H C cl fp) (fa s H C cl fp)) (fun s H C cl fp => ht _ _ (c.blk s H C cl fp)) (fun s H C cl fp => he _ _ (c.blk s H C cl fp)) (hs _)) fun Dn σ H ⟨F, α, S, ρ, s, e, q⟩ => ?_
  obtain ⟨F1, α1, S1, ρ1, s1, e1, q1⟩ := LS.first (k := fun d S1 => .nx (ρ.set i (some d)) S1) s e q
  refine lc_core hfin (fun i hi => by rw [List.all_eq_true] at hvs; exact decide_eq_true_eq.mp (hvs i hi)) ⟨F1, α1, S1, ρ1, s1, e1, q1.imp (fun v H1 ⟨F, α, S, d, s, e, r, q⟩ => ?_) fun _ _ _ z => z⟩
  exact q.nx_here s (e.set r)
end
end GB
/-! Dicts and lists of the store: read, written; methods. -/
namespace GB
open PySem L2
def keyD : D → Option Key
  | .int i => some (.inl i)
  | .str s => some (.inr s)
  | _ => none
def keysD : List D → Option (List Key)
  | [] => some []
  | d :: ds => match keyD d, keysD ds with
    | some k, some ks => some (k :: ks)
    | _, _ => none
section
variable {κ : Type} [DecidableEq κ]
def valD (kvs : List (κ × D)) (k : κ) : Option D := (kvs.find? fun kv => decide (kv.1 = k)).map (·.2)
def putD (kvs : List (κ × D)) (k : κ) (v : D) : List (κ × D) :=
  if (kvs.any fun kv => decide (kv.1 = k)) = true then kvs.map (fun kv => if kv.1 = k then (kv.1, v) else kv) else kvs ++ [(k, v)]
variable {p : Pc} {F : Hp} {α : List Addr}
/-- nothing on both sides, or a value for data -/
def OptR (p : Pc) (F : Hp) (α : List Addr) : Option V → Option D → Prop
  | none, none => True
  | some v, some d => Rp p F α v d
  | _, _ => False
theorem kvR.val {k : κ} : ∀ {ks : List (κ × V)} {ls : List (κ × D)}, kvR p F α ks ls → OptR p F α (valV ks k) (valD ls k)
  | _, _, .nil => trivial
  | _, _, .cons (a := x) (b := y) r t => by
    have ih := kvR.val (k := k) t
    unfold valV valD at ih ⊢
    simp only [List.find?_cons]
    rw [r.1]
    by_cases e : y.1 = k
    · simp only [e, decide_true, Option.map_some]; exact r.2
    · simp only [e, decide_false]; exact ih
theorem kvR.any {k : κ} : ∀ {ks : List (κ × V)} {ls : List (κ × D)}, kvR p F α ks ls → (ks.any fun kv => decide (kv.1 = k)) = (ls.any fun kv => decide (kv.1 = k))
  | _, _, .nil => rfl
  | _, _, .cons (a := x) (b := y) r t => by
    have ih := kvR.any (k := k) t
    simp only [List.any_cons]
    rw [r.1, ih]
theorem kvR.mapset {k : κ} {v : V} {d : D} (rv : Rp p F α v d) : ∀ {ks : List (κ × V)} {ls : List (κ × D)}, kvR p F α ks ls → kvR p F α (ks.map fun kv => if kv.1 = k then (kv.1, v) else kv) (ls.map fun kv => if kv.1 = k then (kv.1, d) else kv)
  | _, _, .nil => .nil
  | _, _, .cons (a := x) (b := y) r t => by
    refine .cons ?_ (kvR.mapset rv t)
    show (if x.1 = k then (x.1, v) else x).1 = (if y.1 = k then (y.1, d) else y).1 ∧ Rp p F α (if x.1 = k then (x.1, v) else x).2 (if y.1 = k then (y.1, d) else y).2
    rw [r.1]
    by_cases e : y.1 = k
    · rw [if_pos e, if_pos e]; exact ⟨rfl, rv⟩
    · rw [if_neg e, if_neg e]; exact ⟨r.1, r.2⟩
theorem kvR.append {ks ks' : List (κ × V)} {ls ls' : List (κ × D)} : kvR p F α ks ls → kvR p F α ks' ls' → kvR p F α (ks ++ ks') (ls ++ ls')
  | .nil, h => h
  | .cons r t, h => .cons r (kvR.append t h)
theorem kvR.put {k : κ} {v : V} {d : D} (rv : Rp p F α v d) {ks : List (κ × V)} {ls : List (κ × D)} (h : kvR p F α ks ls) : kvR p F α (putK ks k v) (putD ls k d) := by
  unfold putK putD
  rw [kvR.any h]
  split
  · exact kvR.mapset rv h
  · exact kvR.append h (.cons ⟨rfl, rv⟩ .nil)
end
theorem keyD_rel {p : Pc} {F : Hp} {α : List Addr} {v : V} {d : D} {k : Key} (r : Rp p F α v d) (h : keyD d = some k) : v = kV k := by
  cases d with
  | int i => cases r; cases h; rfl
  | str i => cases r; cases h; rfl
  | _ => cases h
theorem keysD_rel {p : Pc} {F : Hp} {α : List Addr} : ∀ {ds : List D} {vs : List V} {ks : List Key}, Rps p F α vs ds → keysD ds = some ks → vs = ks.map kV
  | [], _, ks, r, h => by cases r; cases h; rfl
  | d :: ds, _, ks, r, h => by
    cases r with
    | cons r1 r2 =>
      rw [keysD] at h
      cases e1 : keyD d with
      | none => rw [e1] at h; simp at h
      | some k =>
        cases e2 : keysD ds with
        | none => rw [e1, e2] at h; simp at h
        | some ks' =>
          rw [e1, e2] at h
          simp only [Option.some.injEq] at h
          subst h
          rw [keyD_rel r1 e1, keysD_rel r2 e2]
          rfl
/-- what a dict of the store says of a key -/
def dGet (S : Sto) (o i : D) : Option (Option D) := match o with
  | .own k => (match S[k]? with
    | some (.dK kvs) => (keyD i).map fun key => valD kvs key
    | some (.frz (.dK kvs)) => (keyD i).map fun key => valD kvs key
    | some (.dT kvs) => (match i with
      | .tup ds => (keysD ds).map fun key => valD kvs key
      | _ => none)
    | some (.frz (.dT kvs)) => (match i with
      | .tup ds => (keysD ds).map fun key => valD kvs key
      | _ => none)
    | _ => none)
  | _ => none
section
variable {p : Pc} {F : Hp} {α : List Addr} {S : Sto} {H : Hp}
theorem tup_at (s : StOk p F α S H) {v : V} {ds : List D} (r : Rp p F α v (.tup ds)) : ∃ b vs, v = .ref b ∧ H b = some (.tup vs) ∧ Rps p F α vs ds := by
  cases r with
  | tup h1 h2 =>
    have : H _ = some (ung _) := s.sub _ _ h1
    exact ⟨_, _, rfl, this, h2⟩
theorem dGet_rel (s : StOk p F α S H) {vo vi : V} {o i : D} {r : Option D} (ro : Rp p F α vo o) (ri : Rp p F α vi i) (h : dGet S o i = some r) : ∃ a rv, vo = .ref a ∧ DGet H a vi rv ∧ OptR p F α rv r ∧ IsD H a := by
  unfold dGet at h
  split at h
  · rename_i j
    cases ro with
    | own h1 =>
      split at h
      · rename_i kvs hS
        obtain ⟨a, u, h2, h3, h4⟩ := s.own _ _ hS
        rw [h1] at h2; cases h2
        cases u with
        | dK kws =>
          cases hk : keyD i with
          | none => rw [hk] at h; cases h
          | some key =>
            rw [hk] at h; cases h
            exact ⟨_, _, rfl, .inl ⟨kws, key, .inl h3, keyD_rel ri hk, rfl⟩, kvR.val h4, .inl ⟨kws, .inl h3⟩⟩
        | _ => exact (show False from h4).elim
      · rename_i kvs hS
        obtain ⟨a, u, h2, h3, h4⟩ := s.own _ _ hS
        rw [h1] at h2; cases h2
        cases u with
        | frz ob u =>
          cases u with
          | dK kws =>
            cases hk : keyD i with
            | none => rw [hk] at h; cases h
            | some key =>
              rw [hk] at h; cases h
              exact ⟨_, _, rfl, .inl ⟨kws, key, .inr ⟨ob, h3⟩, keyD_rel ri hk, rfl⟩, kvR.val h4, .inl ⟨kws, .inr ⟨ob, h3⟩⟩⟩
          | _ => exact (show False from h4).elim
        | _ => exact (show False from h4).elim
      · rename_i kvs hS
        obtain ⟨a, u, h2, h3, h4⟩ := s.own _ _ hS
        rw [h1] at h2; cases h2
        cases u with
        | dT kws =>
          split at h
          · rename_i ds
            obtain ⟨b, vs, rfl, hb, rs⟩ := tup_at s ri
            cases hk : keysD ds with
            | none => rw [hk] at h; cases h
            | some key =>
              rw [hk] at h; cases h
              have e := keysD_rel rs hk
              subst e
              exact ⟨_, _, rfl, .inr ⟨kws, key, b, .inl h3, rfl, hb, rfl⟩, kvR.val h4, .inr ⟨kws, .inl h3⟩⟩
          · cases h
        | _ => exact (show False from h4).elim
      · rename_i kvs hS
        obtain ⟨a, u, h2, h3, h4⟩ := s.own _ _ hS
        rw [h1] at h2; cases h2
        cases u with
        | frz ob u =>
          cases u with
          | dT kws =>
            split at h
            · rename_i ds
              obtain ⟨b, vs, rfl, hb, rs⟩ := tup_at s ri
              cases hk : keysD ds with
              | none => rw [hk] at h; cases h
              | some key =>
                rw [hk] at h; cases h
                have e := keysD_rel rs hk
                subst e
                exact ⟨_, _, rfl, .inr ⟨kws, key, b, .inr ⟨ob, h3⟩, rfl, hb, rfl⟩, kvR.val h4, .inr ⟨kws, .inr ⟨ob, h3⟩⟩⟩
            · cases h
          | _ => exact (show False from h4).elim
        | _ => exact (show False from h4).elim
      · cases h
  · cases h
end
/-- d[k] -/
def opDGet (o i : D) (S : Sto) : R D := match dGet S o i with
  | some (some d) => .ok d S
  | _ => .no
def opDIn (i o : D) (S : Sto) : R D := match dGet S o i with
  | some r => .ok (.bl r.isSome) S
  | _ => .no
def opDNotIn (i o : D) (S : Sto) : R D := match dGet S o i with
  | some r => .ok (.bl (!r.isSome)) S
  | _ => .no
def isDict (S : Sto) : D → Bool
  | .own k => (match S[k]? with
    | some (.dK _) => true | some (.dT _) => true | some (.frz (.dK _)) => true | some (.frz (.dT _)) => true
    | _ => false)
  | _ => false
/-- d.get(k) -/
def semGet1 (f g : Sem) : Sem := fun ρ S => (f ρ S).bind fun o S1 => if isDict S1 o = true then (g ρ S1).bind fun i S2 => (match dGet S2 o i with
  | some r => .ok (r.getD .non) S2
  | _ => .no) else .no
/-- d.get(k, x) -/
def semGet2 (f g h : Sem) : Sem := fun ρ S => (f ρ S).bind fun o S1 => if isDict S1 o = true then (g ρ S1).bind fun i S2 => (h ρ S2).bind fun x S3 => (match dGet S3 o i with
  | some r => .ok (r.getD x) S3
  | _ => .no) else .no
/-- o[i] = v -/
def opSet (o i v : D) (S : Sto) : Option Sto := match o with
  | .own k => (match S[k]? with
    | some (.lst xs) => (match i with
      | .int j => (ixN xs.length j).map fun n => S.set k (.lst (xs.set n v))
      | _ => none)
    | some (.dK kvs) => (match keyD i with
      | some key => if kvs.length < sizeLine then some (S.set k (.dK (putD kvs key v))) else none
      | none => none)
    | some (.dT kvs) => (match i with
      | .tup ds => (match keysD ds with
        | some key => if kvs.length < sizeLine then some (S.set k (.dT (putD kvs key v))) else none
        | none => none)
      | _ => none)
    | _ => none)
  | _ => none
def sSub (f fo fi : Sem) : SemS := fun ρ S => match f ρ S with
  | .ok v S1 => (match fo ρ S1 with
    | .ok o S2 => (match fi ρ S2 with
      | .ok i S3 => (match opSet o i v S3 with
        | some S4 => .nx ρ S4
        | none => .no)
      | .ex x S3 => .ex x ρ S3 | .no => .no)
    | .ex x S2 => .ex x ρ S2 | .no => .no)
  | .ex x S1 => .ex x ρ S1 | .no => .no
def opApp (o d : D) (S2 : Sto) : R D := match o with
  | .own k => (match S2[k]? with
    | some (.lst xs) => if xs.length < sizeLine then .ok .non (S2.set k (.lst (xs ++ [d]))) else .no
    | _ => .no)
  | _ => .no
/-- l.append(x) -/
def semApp (f g : Sem) : Sem := fun ρ S => (f ρ S).bind fun o S1 => match lstOf S1 o with
  | none => .no
  | some _ => (g ρ S1).bind fun d S2 => opApp o d S2
def semNewK : Sem := fun _ S => .ok (.own S.length) (S ++ [.dK []])
def semNewT : Sem := fun _ S => .ok (.own S.length) (S ++ [.dT []])
section
variable {p : Pc} {N : List Str} {k : Nat} {sc : Sco} {a b c e o i : Expr} {es : List Expr} {st : Stmt} {ss tt : List Stmt} {f g h fo fi : Sem} {fs gs : SemS} {fa : SemA} {pos pp apos : Pos}
theorem COk.hu {W : WX} {X : Cx} (c : COk p N k sc W X) : X.A.units + 1 < cLine := by have := c.room.units; omega
theorem je_dget (ho : JE p N k sc o fo) (hi : JE p N k sc i fi) (hs : NoSl i := by intro _ _; rfl) : JE p N k sc (.Subscript o i pos) (sem2 opDGet fo fi) := fun W X c => by
  refine PE.imp (pe_dget c.hu (ho W X c) (hi W X c) hs) fun σ H Q h => ?_
  obtain ⟨F, α, S, ρ, s, e, q⟩ := LE.two h
  refine ⟨F, α, S, ρ, s, e, q.imp (fun v H1 h1 => ?_) fun _ _ _ z => z⟩
  obtain ⟨F, α, S, ρ, s, e, q⟩ := h1
  refine ⟨F, α, S, ρ, s, e, q.imp (fun w H2 ⟨F, α, S, d, e, s, r1, r2, q9⟩ => ?_) fun _ _ _ z => z⟩
  unfold opDGet at q9
  cases hg : dGet S d e with
  | none => rw [hg] at q9; exact q9.elim
  | some r =>
    rw [hg] at q9
    cases r with
    | none => exact q9.elim
    | some x =>
      obtain ⟨a, rv, rfl, h1, h2, _⟩ := dGet_rel s r1 r2 hg
      cases rv with
      | none => exact h2.elim
      | some y => exact ⟨a, y, rfl, h1, q9.here s h2⟩
theorem je_din (hi : JE p N k sc i fi) (ho : JE p N k sc o fo) (hm : behindInMarks .In o = false := by rfl) : JE p N k sc (.Compare i [.In] [o] pos) (sem2 opDIn fi fo) := fun W X c => by
  refine PE.imp (pe_cmp (pc_din c.hu (hi W X c) (ho W X c)) hm) fun σ H Q h => ?_
  obtain ⟨F, α, S, ρ, s, e, q⟩ := LE.two h
  refine ⟨F, α, S, ρ, s, e, q.imp (fun v H1 h1 => ?_) fun _ _ _ z => z⟩
  obtain ⟨F, α, S, ρ, s, e, q⟩ := h1
  refine ⟨F, α, S, ρ, s, e, q.imp (fun w H2 ⟨F, α, S, d, e, s, r1, r2, q9⟩ => ?_) fun _ _ _ z => z⟩
  unfold opDIn at q9
  cases hg : dGet S e d with
  | none => rw [hg] at q9; exact q9.elim
  | some r =>
    rw [hg] at q9
    obtain ⟨a, rv, rfl, h1, h2, _⟩ := dGet_rel s r2 r1 hg
    refine ⟨a, rv, rfl, h1, ?_⟩
    have : rv.isSome = r.isSome := by
      cases rv <;> cases r <;> first | rfl | exact h2.elim
    rw [this]
    exact q9.here s (.bl _)
theorem je_dnotin (hi : JE p N k sc i fi) (ho : JE p N k sc o fo) (hm : behindInMarks .NotIn o = false := by rfl) : JE p N k sc (.Compare i [.NotIn] [o] pos) (sem2 opDNotIn fi fo) := fun W X c => by
  refine PE.imp (pe_cmp (pc_dnotin c.hu (hi W X c) (ho W X c)) hm) fun σ H Q h => ?_
  obtain ⟨F, α, S, ρ, s, e, q⟩ := LE.two h
  refine ⟨F, α, S, ρ, s, e, q.imp (fun v H1 h1 => ?_) fun _ _ _ z => z⟩
  obtain ⟨F, α, S, ρ, s, e, q⟩ := h1
  refine ⟨F, α, S, ρ, s, e, q.imp (fun w H2 ⟨F, α, S, d, e, s, r1, r2, q9⟩ => ?_) fun _ _ _ z => z⟩
  unfold opDNotIn at q9
  cases hg : dGet S e d with
  | none => rw [hg] at q9; exact q9.elim
  | some r =>
    rw [hg] at q9
    obtain ⟨a, rv, rfl, h1, h2, _⟩ := dGet_rel s r2 r1 hg
    refine ⟨a, rv, rfl, h1, ?_⟩
    have : rv.isSome = r.isSome := by
      cases rv <;> cases r <;> first | rfl | exact h2.elim
    rw [this]
    exact q9.here s (.bl _)
theorem OptR.getD {F : Hp} {α : List Addr} {rv : Option V} {r : Option D} {v : V} {d : D} (h : OptR p F α rv r) (hd : Rp p F α v d) : Rp p F α (rv.getD v) (r.getD d) := by
  cases rv <;> cases r <;> first | exact hd | exact h | exact h.elim
theorem isDict_rel {F : Hp} {α : List Addr} {S : Sto} {H : Hp} (s : StOk p F α S H) {v : V} {d : D} (r : Rp p F α v d) (h : isDict S d = true) : ∃ a, v = .ref a ∧ IsD H a := by
  cases d with
  | own j =>
    cases r with
    | own h1 =>
      unfold isDict at h
      dsimp only at h
      cases hS : S[j]? with
      | none => rw [hS] at h; cases h
      | some o =>
        rw [hS] at h
        obtain ⟨a, u, h2, h3, h4⟩ := s.own _ _ hS
        rw [h1] at h2; cases h2
        refine ⟨_, rfl, ?_⟩
        cases o with
        | dK kvs => cases u <;> first | exact .inl ⟨_, .inl h3⟩ | exact (show False from h4).elim
        | dT kvs => cases u <;> first | exact .inr ⟨_, .inl h3⟩ | exact (show False from h4).elim
        | frz o =>
          cases u with
          | frz ob u =>
            cases o with
            | dK kvs => cases u <;> first | exact .inl ⟨_, .inr ⟨_, h3⟩⟩ | exact (show False from h4).elim
            | dT kvs => cases u <;> first | exact .inr ⟨_, .inr ⟨_, h3⟩⟩ | exact (show False from h4).elim
            | _ => cases h
          | _ => exact (show False from h4).elim
        | _ => cases h
  | _ => cases h
/-- the method's call as text: what is seen of it -/
structure M1' (o : Expr) (m : Str) (apos : Pos) (e : Expr) (cpos : Pos) : Prop where
  base : ∀ env, attributeBase o m env (eval o env) = eval o env
  few : ∀ env, ((backTo cpos (starEach [e] env)).all (fun x => !x.1) && (backToKw cpos (keywordEach [] env)).all (fun x => x.1.isSome) && decide (([e] : List Expr).length + ([] : List Keyword).length + (if ([] : List Keyword).isEmpty then 0 else 1) < 30)) = true
  line : (apos.endLine == cpos.line) = true
  trees : ∀ env, backTo cpos (starEach [e] env) = [(false, eval e env)]
theorem je_get1 (ho : JE p N k sc o fo) (hi : JE p N k sc i fi) (m : M1' o "get" apos i pos := by exact ⟨fun _ => rfl, fun _ => rfl, rfl, fun _ => rfl⟩) : JE p N k sc (.Call (.Attribute o "get" apos) [i] [] pos) (semGet1 fo fi) := fun W X c => by
  refine PE.imp (pe_dget1 c.hu (ho W X c) (hi W X c) ⟨m.base _, m.few _, m.line, m.trees _⟩) fun σ H Q h => ?_
  obtain ⟨F, α, S, ρ, s, e, q⟩ := h
  refine ⟨F, α, S, ρ, s, e, (Sat.bind q).imp (fun v H1 ⟨F1, α1, S1, d, x, s1, r1, q1⟩ => ?_) fun _ _ _ z => z⟩
  split at q1
  case isFalse => exact q1.elim
  rename_i hd
  obtain ⟨a, rfl, hD⟩ := isDict_rel s1 r1 hd
  refine ⟨a, rfl, hD, F1, α1, S1, ρ, s1, e.ext x, (Sat.bind q1).imp (fun w H2 ⟨F2, α2, S2, d2, x2, s2, r2, q2⟩ => ?_) fun _ _ _ z => z⟩
  cases hg : dGet S2 d d2 with
  | none => rw [hg] at q2; exact q2.elim
  | some r =>
    rw [hg] at q2
    obtain ⟨a', rv, h0, h1, h2, _⟩ := dGet_rel s2 (Rp.ext x2 _ _ r1) r2 hg
    cases h0
    exact ⟨rv, h1, q2.here s2 (h2.getD .non)⟩
theorem je_get2 (ho : JE p N k sc o fo) (hi : JE p N k sc i fi) (hh : JE p N k sc e h) (hb : ∀ env, attributeBase o "get" env (eval o env) = eval o env := by intro _; rfl)
    (hf : ∀ env, ((backTo pos (starEach [i, e] env)).all (fun x => !x.1) && (backToKw pos (keywordEach [] env)).all (fun x => x.1.isSome) && decide (([i, e] : List Expr).length + ([] : List Keyword).length + (if ([] : List Keyword).isEmpty then 0 else 1) < 30)) = true := by intro _; rfl)
    (hl : (apos.endLine == pos.line) = true := by rfl) (ht : ∀ env, backTo pos (starEach [i, e] env) = [(false, eval i env), (false, eval e env)] := by intro _; rfl) : JE p N k sc (.Call (.Attribute o "get" apos) [i, e] [] pos) (semGet2 fo fi h) := fun W X c => by
  refine PE.imp (pe_dget2 c.hu (ho W X c) (hi W X c) (hh W X c) ⟨hb _, hf _, hl, ht _⟩) fun σ H Q h => ?_
  obtain ⟨F, α, S, ρ, s, e, q⟩ := h
  refine ⟨F, α, S, ρ, s, e, (Sat.bind q).imp (fun v H1 ⟨F1, α1, S1, d, x, s1, r1, q1⟩ => ?_) fun _ _ _ z => z⟩
  split at q1
  case isFalse => exact q1.elim
  rename_i hd
  obtain ⟨a, rfl, hD⟩ := isDict_rel s1 r1 hd
  refine ⟨a, rfl, hD, F1, α1, S1, ρ, s1, e.ext x, (Sat.bind q1).imp (fun w H2 ⟨F2, α2, S2, d2, x2, s2, r2, q2⟩ => ?_) fun _ _ _ z => z⟩
  refine ⟨F2, α2, S2, ρ, s2, (e.ext x).ext x2, (Sat.bind q2).imp (fun w3 H3 ⟨F3, α3, S3, d3, x3, s3, r3, q3⟩ => ?_) fun _ _ _ z => z⟩
  cases hg : dGet S3 d d2 with
  | none => rw [hg] at q3; exact q3.elim
  | some r =>
    rw [hg] at q3
    obtain ⟨a', rv, h0, h1, h2, _⟩ := dGet_rel s3 (Rp.ext (x2.trans x3) _ _ r1) (Rp.ext x3 _ _ r2) hg
    cases h0
    exact ⟨rv, h1, q3.here s3 (h2.getD r3)⟩
theorem je_newK : JE p N k sc (.Dict [] [] pos) semNewK := fun W X c => PE.imp pe_dnewK fun σ H Q ⟨F, α, S, ρ, s, e, q⟩ => q.own (u := .dK []) s .nil
theorem je_newT : JE p N k sc (.Dict [] [] pos) semNewT := fun W X c => PE.imp pe_dnewT fun σ H Q ⟨F, α, S, ρ, s, e, q⟩ => q.own (u := .dT []) s .nil
theorem pset_or {X : Cx} {t u : TSet} (h1 : PSet X t) (h2 : PSet X u) : PSet X (fun o i v H Q => t o i v H Q ∨ u o i v H Q) := fun pins s σ H o i v ov iv w Q I a b d h => by
  rcases h with h | h
  · exact h1 pins s σ H o i v ov iv w Q I a b d h
  · exact h2 pins s σ H o i v ov iv w Q I a b d h
theorem opSet_rel {F : Hp} {α : List Addr} {S S4 : Sto} {H : Hp} {vo vi vv : V} {o i v : D} (s : StOk p F α S H) (ro : Rp p F α vo o) (ri : Rp p F α vi i) (rv : Rp p F α vv v) (h : opSet o i v S = some S4) {Q : Hp → Prop} (q : ∀ H', StOk p F α S4 H' → Q H') : rSetL vo vi vv H Q ∨ rSetD vo vi vv H Q := by
  unfold opSet at h
  split at h
  · rename_i j
    cases ro with
    | own h1 =>
      split at h
      · rename_i xs hS
        obtain ⟨a, u, h2, h3, h4⟩ := s.own _ _ hS
        rw [h1] at h2; cases h2
        cases u with
        | lst vs =>
          split at h
          · rename_i jj
            cases ri
            cases hn : ixN xs.length jj with
            | none => rw [hn] at h; cases h
            | some n =>
              rw [hn] at h; cases h
              have h4 : Rps p F α vs xs := h4
              refine .inl ⟨_, vs, jj, n, rfl, rfl, h3, by rw [h4.length]; exact hn, q _ (s.set h1 (s.loose h1 h3 fun _ _ z => nomatch z) (show OU p F α (.lst _) (.lst _) from h4.set rv n))⟩
          · cases h
        | _ => exact (show False from h4).elim
      · rename_i kvs hS
        obtain ⟨a, u, h2, h3, h4⟩ := s.own _ _ hS
        rw [h1] at h2; cases h2
        cases u with
        | dK kws =>
          have h4 : kvR p F α kws kvs := h4
          split at h
          · rename_i key hk
            split at h
            · rename_i hl
              cases h
              exact .inr ⟨_, _, rfl, .inl ⟨kws, key, h3, keyD_rel ri hk, by rw [kvR.length h4]; exact hl, rfl⟩, q _ (s.set h1 (s.loose h1 h3 fun _ _ z => nomatch z) (show OU p F α (.dK _) (.dK _) from kvR.put rv h4))⟩
            · cases h
          · cases h
        | _ => exact (show False from h4).elim
      · rename_i kvs hS
        obtain ⟨a, u, h2, h3, h4⟩ := s.own _ _ hS
        rw [h1] at h2; cases h2
        cases u with
        | dT kws =>
          have h4 : kvR p F α kws kvs := h4
          split at h
          · rename_i ds
            obtain ⟨b, vs, rfl, hb, rs⟩ := tup_at s ri
            split at h
            · rename_i key hk
              split at h
              · rename_i hl
                cases h
                have e := keysD_rel rs hk
                subst e
                exact .inr ⟨_, _, rfl, .inr ⟨kws, key, b, h3, rfl, hb, by rw [kvR.length h4]; exact hl, rfl⟩, q _ (s.set h1 (s.loose h1 h3 fun _ _ z => nomatch z) (show OU p F α (.dT _) (.dT _) from kvR.put rv h4))⟩
              · cases h
            · cases h
          · cases h
        | _ => exact (show False from h4).elim
      · cases h
  · cases h
theorem js_sub (h : JE p N k sc e f) (ho : JE p N k sc o fo) (hi : JE p N k sc i fi) (hs : ∀ env, swapsWithSole [.Subscript o i pp] e pos.line env = pure false := by intro _; rfl) (hw : ∀ env, swappedStores [.Subscript o i pp] e env = pure none := by intro _; rfl)
    (h1 : ∀ env, (assignEach [.Subscript o i pp] env).map (·.2) = [assign (.Subscript o i pp) env] := by intro _; rfl)
    (ha : ∀ env v, assign (.Subscript o i pp) env v = (do
      let ov ← holding [v] (eval o env)
      let iv ← holding [v, ov] (eval i env)
      standAt pp
      holding [v, ov, iv] (setItem ov iv v)
      release [v, ov, iv] []) := by intro _ _; rfl) : JS p N k sc (.Assign [.Subscript o i pp] e pos) (sSub f fo fi) := fun W X c => by
  refine PS.imp (ps_asg (h W X c.c) (pg_sub (ho W X c.c) (hi W X c.c) (pset_or set_list (set_dict c.c.hu)) (ha _)) (hs _) (hw _) (h1 _)) fun Dn σ H ⟨F, α, S, ρ, s, e, q⟩ => ?_
  obtain ⟨F1, α1, S1, ρ1, s1, e1, q1⟩ := LS.first (k := fun v S1 => match fo ρ S1 with
    | .ok o S2 => (match fi ρ S2 with
      | .ok i S3 => (match opSet o i v S3 with
        | some S4 => .nx ρ S4
        | none => .no)
      | .ex x S3 => .ex x ρ S3 | .no => .no)
    | .ex x S2 => .ex x ρ S2 | .no => .no) s e q
  refine ⟨F1, α1, S1, ρ1, s1, e1, q1.imp (fun v H1 ⟨F, α, S, d, s, e, r, q⟩ => ?_) fun _ _ _ z => z⟩
  refine ⟨F, α, S, ρ, s, e, ?_⟩
  cases hfo : fo ρ S with
  | no => rw [hfo] at q; exact q.elim
  | ex x S2 => rw [hfo] at q; exact fun cls dd H2 F2 α2 x2 s2 r2 => q σ cls dd H2 F2 α2 x2 s2 (e.ext x2) r2
  | ok od S2 =>
    rw [hfo] at q
    intro v2 H2 F2 α2 x2 s2 r2
    refine ⟨F2, α2, S2, ρ, s2, e.ext x2, ?_⟩
    dsimp only at q
    cases hfi : fi ρ S2 with
    | no => rw [hfi] at q; exact q.elim
    | ex x S3 => rw [hfi] at q; exact fun cls dd H3 F3 α3 x3 s3 r3 => q σ cls dd H3 F3 α3 (x2.trans x3) s3 ((e.ext x2).ext x3) r3
    | ok idd S3 =>
      rw [hfi] at q
      intro v3 H3 F3 α3 x3 s3 r3
      dsimp only at q
      cases hop : opSet od idd d S3 with
      | none => rw [hop] at q; exact q.elim
      | some S4 =>
        rw [hop] at q
        exact opSet_rel s3 (Rp.ext x3 _ _ r2) r3 (Rp.ext (x2.trans x3) _ _ r) hop fun H4 s4 => q σ H4 F3 α3 (x2.trans x3) s4 ((e.ext x2).ext x3)
end
end GB
/-! Methods of lists and texts; raise; try. -/
namespace GB
open PySem L2
def strsIn (d : D) (S : Sto) : Option (List Str) := (seqOf S d).bind strsOf
/-- s.join(x) -/
def semJoin (f g : Sem) : Sem := fun ρ S => (f ρ S).bind fun o S1 => match o with
  | .str a => (g ρ S1).bind fun d S2 => match strsIn d S2 with
    | some ys => if (ys.map (·.length)).sum + ys.length * a.length ≤ 16777216 then .ok (.str (Txt.join a ys)) S2 else .no
    | none => .no
  | _ => .no
/-- s.split(x) -/
def semSplit (f g : Sem) : Sem := fun ρ S => (f ρ S).bind fun o S1 => match o with
  | .str a => (g ρ S1).bind fun d S2 => match d with
    | .str b => if (b.length == 0) = false ∧ a.length + 2 ≤ sizeLine then .ok (.lst ((Txt.split a b).map .str)) S2 else .no
    | _ => .no
  | _ => .no
/-- .. as an object of the store -/
def semSplitO (f g : Sem) : Sem := fun ρ S => (f ρ S).bind fun o S1 => match o with
  | .str a => (g ρ S1).bind fun d S2 => match d with
    | .str b => if (b.length == 0) = false ∧ a.length + 2 ≤ sizeLine then .ok (.own S2.length) (S2 ++ [.lst ((Txt.split a b).map .str)]) else .no
    | _ => .no
  | _ => .no
/-- s.count(x) -/
def semCount (f g : Sem) : Sem := fun ρ S => (f ρ S).bind fun o S1 => match o with
  | .str a => (g ρ S1).bind fun d S2 => match d with
    | .str b => .ok (.int (Txt.count a b)) S2
    | _ => .no
  | _ => .no
def opPop (o d : D) (S2 : Sto) : R D := match o with
  | .own k => (match d with
    | .int i => (match S2[k]? with
      | some (.lst xs) => if -(2 ^ 63) ≤ i ∧ i < 2 ^ 63 then (match seqIndex? i xs.length with
        | some n => (match xs[n]? with
          | some y => .ok y (S2.set k (.lst (xs.eraseIdx n)))
          | none => .no)
        | none => .no) else .no
      | _ => .no)
    | _ => .no)
  | _ => .no
/-- l.pop(i) -/
def semPop (f g : Sem) : Sem := fun ρ S => (f ρ S).bind fun o S1 => match lstOf S1 o with
  | none => .no
  | some _ => (g ρ S1).bind fun d S2 => opPop o d S2
def sRaise (cls : Str) : SemS := fun ρ S => .ex ⟨cls, []⟩ ρ S
/-- except clauses: the first that takes the class -/
def sHands (tk : Str → Str → Option Bool) (x : Exn) : List (Str × SemS) → SemS
  | [] => fun ρ S => .ex x ρ S
  | (c, f) :: r => fun ρ S => match tk x.cls c with
    | some true => f ρ S
    | some false => sHands tk x r ρ S
    | none => .no
def sTry (tk : Str → Str → Option Bool) (fb : SemS) (hs : List (Str × SemS)) : SemS := fun ρ S => match fb ρ S with
  | .ex x ρ1 S1 => sHands tk x hs ρ1 S1
  | r => r
/-- an own class of errors, without an own __init__ -/
structure ExF (p : Pc) (x : Str) : Prop where
  ex : ∃ C, p.mg x = some (.ref C) ∧ PySem.W.excIn p.K C [.type "ValueError", .type "Exception", .type "BaseException", .type "object"] "ValueError.__new__" = true ∧ PySem.W.keepIn p.K (.ref C) = true ∧ PySem.W.subIn p.K (.ref C) (.type "BaseException") = some true ∧ PySem.W.typeIn p.K (.ref C) = some (.type "type")
/-- what each class takes -/
structure TkF (p : Pc) (tk : Str → Str → Option Bool) : Prop where
  ok : ∀ x c b, tk x c = some b → ∀ C, p.mg x = some (.ref C) → ∃ C2, p.mg c = some (.ref C2) ∧ PySem.W.exmOne p.K (.ref C) (.ref C2) = some b
section
variable {p : Pc} {N : List Str} {k : Nat} {sc : Sco} {a b c e o i : Expr} {es : List Expr} {st : Stmt} {ss tt : List Stmt} {f g h fo fi : Sem} {fs gs : SemS} {fa : SemA} {pos pp apos : Pos}
theorem ja_one (h : JE p N k sc e f) (hs : ∀ env, starEach [e] env = (false, eval e env) :: starEach [] env) : JA p N k sc [e] (fun ρ S => (f ρ S).bind fun d S1 => .ok [d] S1) := fun W X c => by
  refine PA.imp (pa_cons (h W X c) pa_nil (hs _)) fun σ H Q ⟨F, α, S, ρ, s, e, q⟩ => ?_
  refine ⟨F, α, S, ρ, s, e, ?_⟩
  have q : SatA p F α ((f ρ S).bind fun d S1 => .ok [d] S1) Q fun c d H' => W c d σ H' := q
  cases hf : f ρ S with
  | no => rw [hf] at q; exact q.elim
  | ex x S1 => rw [hf] at q; exact q
  | ok d S1 =>
    rw [hf] at q
    exact fun v H1 F1 α1 x s1 r => q _ H1 F1 α1 x s1 (.cons r .nil)
/-- what is seen of a method's call with one argument -/
structure Mc (o : Expr) (m : Str) (apos : Pos) (e : Expr) (cpos : Pos) : Prop where
  base : ∀ env, attributeBase o m env (eval o env) = eval o env
  few : ∀ env, ((backTo cpos (starEach [e] env)).all (fun x => !x.1) && (backToKw cpos (keywordEach [] env)).all (fun x => x.1.isSome) && decide (([e] : List Expr).length + ([] : List Keyword).length + (if ([] : List Keyword).isEmpty then 0 else 1) < 30)) = true
  line : (apos.endLine == cpos.line) = true
  st : ∀ env, starEach [e] env = (false, eval e env) :: starEach [] env
  pl : ∀ env, (backTo cpos (starEach [] env)).any (·.1) = false
theorem lstOf_ty {F : Hp} {α : List Addr} {S : Sto} {H : Hp} {K : PySem.W.Frag} (hK : K = p.K) (s : StOk p F α S H) {v : V} {d : D} {xs : List D} (r : Rp p F α v d) (h : lstOf S d = some xs) : tyV K "list" v H := by
  obtain ⟨a, vs, rfl, h1, _⟩ := s.lstOf r h
  rw [hK]
  exact .inl ⟨rfl, vs, h1⟩
theorem je_append (ho : JE p N k sc o fo) (he : JE p N k sc e f) (m : Mc o "append" apos e pos := by exact ⟨fun _ => rfl, fun _ => rfl, rfl, fun _ => rfl, fun _ => rfl⟩) : JE p N k sc (.Call (.Attribute o "append" apos) [e] [] pos) (semApp fo f) := fun W X c => by
  refine PE.imp (pe_bm F.plainAttrs_list F.slot_list_append F.type_list_append mt_append (ho W X c) (ja_one he m.st W X c) (m.base _) (m.few _) m.line (m.st _) (m.pl _)) fun σ H Q ⟨F, α, S, ρ, s, e, q⟩ => ?_
  refine ⟨F, α, S, ρ, s, e, (Sat.bind q).imp (fun v H1 ⟨F1, α1, S1, d, x, s1, r1, q1⟩ => ?_) fun _ _ _ z => z⟩
  cases hl : lstOf S1 d with
  | none => rw [hl] at q1; exact q1.elim
  | some ys =>
    rw [hl] at q1
    refine ⟨lstOf_ty c.K s1 r1 hl, F1, α1, S1, ρ, s1, e.ext x, ?_⟩
    dsimp only at q1
    show SatA p F1 α1 ((f ρ S1).bind fun d S1 => .ok [d] S1) _ _
    cases hf : f ρ S1 with
    | no => rw [hf] at q1; exact q1.elim
    | ex y S2 => rw [hf] at q1; exact q1
    | ok dd S2 =>
      rw [hf] at q1
      intro vs H2 F2 α2 x2 s2 r2
      obtain ⟨w, rfl, r3⟩ := one_of r2
      have q2 : Sat p F1 α1 (opApp d dd S2) Q fun c d H' => W c d σ H' := q1
      unfold opApp at q2
      split at q2
      · rename_i j
        split at q2
        · rename_i xs hS
          split at q2
          · rename_i hz
            have r4 := Rp.ext x2 _ _ r1
            cases r4 with
            | own h1 =>
              obtain ⟨a, u, h2, h3, h4⟩ := s2.own _ _ hS
              rw [h1] at h2; cases h2
              cases u with
              | lst ws =>
                have h4 : Rps p F2 α2 ws xs := h4
                refine ⟨_, ws, w, rfl, rfl, h3, by rw [h4.length]; exact hz, ?_⟩
                exact q2 _ _ F2 α2 x2 (s2.set h1 (s2.loose h1 h3 fun _ _ z => nomatch z) (show OU p F2 α2 (.lst _) (.lst _) from h4.append (.cons r3 .nil))) .non
              | _ => exact (show False from h4).elim
          · exact q2.elim
        · exact q2.elim
      · exact q2.elim
theorem je_pop (ho : JE p N k sc o fo) (he : JE p N k sc e f) (m : Mc o "pop" apos e pos := by exact ⟨fun _ => rfl, fun _ => rfl, rfl, fun _ => rfl, fun _ => rfl⟩) : JE p N k sc (.Call (.Attribute o "pop" apos) [e] [] pos) (semPop fo f) := fun W X c => by
  refine PE.imp (pe_bm F.plainAttrs_list F.slot_list_pop F.type_list_pop mt_popAt (ho W X c) (ja_one he m.st W X c) (m.base _) (m.few _) m.line (m.st _) (m.pl _)) fun σ H Q ⟨F, α, S, ρ, s, e, q⟩ => ?_
  refine ⟨F, α, S, ρ, s, e, (Sat.bind q).imp (fun v H1 ⟨F1, α1, S1, d, x, s1, r1, q1⟩ => ?_) fun _ _ _ z => z⟩
  cases hl : lstOf S1 d with
  | none => rw [hl] at q1; exact q1.elim
  | some ys =>
    rw [hl] at q1
    refine ⟨lstOf_ty c.K s1 r1 hl, F1, α1, S1, ρ, s1, e.ext x, ?_⟩
    dsimp only at q1
    show SatA p F1 α1 ((f ρ S1).bind fun d S1 => .ok [d] S1) _ _
    cases hf : f ρ S1 with
    | no => rw [hf] at q1; exact q1.elim
    | ex y S2 => rw [hf] at q1; exact q1
    | ok dd S2 =>
      rw [hf] at q1
      intro vs H2 F2 α2 x2 s2 r2
      obtain ⟨w, rfl, r3⟩ := one_of r2
      have q2 : Sat p F1 α1 (opPop d dd S2) Q fun c d H' => W c d σ H' := q1
      unfold opPop at q2
      split at q2
      · rename_i j
        split at q2
        case h_2 => exact q2.elim
        rename_i ii
        cases r3
        split at q2
        · rename_i xs hS
          split at q2
          · rename_i hz
            have r4 := Rp.ext x2 _ _ r1
            cases r4 with
            | own h1 =>
              obtain ⟨a, u, h2, h3, h4⟩ := s2.own _ _ hS
              rw [h1] at h2; cases h2
              cases u with
              | lst ws =>
                have h4 : Rps p F2 α2 ws xs := h4
                split at q2
                · rename_i n hn
                  split at q2
                  · rename_i y hy
                    obtain ⟨yv, hyv, ry⟩ := h4.get hy
                    refine ⟨_, ws, ii, n, yv, rfl, rfl, h3, hz.1, hz.2, by rw [h4.length]; exact hn, hyv, ?_⟩
                    have h5 : Rps p F2 α2 (ws.eraseIdx n) (xs.eraseIdx n) := by
                      rw [List.eraseIdx_eq_take_drop_succ, List.eraseIdx_eq_take_drop_succ]
                      exact (h4.take n).append (h4.drop (n + 1))
                    exact q2 _ _ F2 α2 x2 (s2.set h1 (s2.loose h1 h3 fun _ _ z => nomatch z) (show OU p F2 α2 (.lst _) (.lst _) from h5)) ry
                  · exact q2.elim
                · exact q2.elim
              | _ => exact (show False from h4).elim
          · exact q2.elim
        · exact q2.elim
      · exact q2.elim
theorem strsIn_rel {F : Hp} {α : List Addr} {S : Sto} {H : Hp} (s : StOk p F α S H) {v : V} {d : D} {ys : List Str} (r : Rp p F α v d) (h : strsIn d S = some ys) : ∃ a, v = .ref a ∧ (SqL p.K H a (ys.map V.str) ∨ SqT p.K H a (ys.map V.str)) := by
  unfold strsIn at h
  obtain ⟨xs, h1, h2⟩ := Option.bind_eq_some_iff.mp h
  obtain ⟨a, vs, rfl, h3, h4⟩ := s.seqOf r h1
  have e := strsOf_map h2
  subst e
  have e2 := h4.strs
  subst e2
  exact ⟨a, rfl, h3⟩
theorem je_join (ho : JE p N k sc o fo) (he : JE p N k sc e f) (hs : ∀ env, starEach [e] env = [(false, eval e env)] := by intro _; rfl) (hbase : ∀ env, attributeBase o "join" env (eval o env) = eval o env := by intro _; rfl) (hline : (apos.endLine == pos.line) = true := by rfl) :
    JE p N k sc (.Call (.Attribute o "join" apos) [e] [] pos) (semJoin fo f) := fun W X c => by
  refine PE.imp (pe_join (ho W X c) (he W X c) (hs _) (hbase _) hline) fun σ H Q ⟨F, α, S, ρ, s, e, q⟩ => ?_
  refine ⟨F, α, S, ρ, s, e, (Sat.bind q).imp (fun v H1 ⟨F1, α1, S1, d, x, s1, r1, q1⟩ => ?_) fun _ _ _ z => z⟩
  cases d with
  | str z =>
    cases r1
    refine ⟨⟨_, rfl⟩, F1, α1, S1, ρ, s1, e.ext x, (Sat.bind q1).imp (fun w H2 ⟨F2, α2, S2, d2, x2, s2, r2, q2⟩ => ?_) fun _ _ _ z => z⟩
    cases hy : strsIn d2 S2 with
    | none => rw [hy] at q2; exact q2.elim
    | some ys =>
      rw [hy] at q2
      dsimp only at q2
      split at q2
      · rename_i hz
        obtain ⟨a, rfl, h3⟩ := strsIn_rel s2 r2 hy
        exact ⟨_, a, ys, rfl, rfl, by rw [c.K]; exact h3, hz, q2.here s2 (.str _)⟩
      · exact q2.elim
  | _ => exact q1.elim
theorem strs_rp {F : Hp} {α : List Addr} : ∀ l : List Str, Rps p F α (l.map V.str) (l.map D.str)
  | [] => .nil
  | c :: l => .cons (.str _) (strs_rp l)
theorem je_split (ho : JE p N k sc o fo) (he : JE p N k sc e f) (hs : ∀ env, starEach [e] env = [(false, eval e env)] := by intro _; rfl) (hbase : ∀ env, attributeBase o "split" env (eval o env) = eval o env := by intro _; rfl) (hline : (apos.endLine == pos.line) = true := by rfl) :
    JE p N k sc (.Call (.Attribute o "split" apos) [e] [] pos) (semSplit fo f) := fun W X c => by
  refine PE.imp (pe_split (ho W X c) (he W X c) (hs _) (hbase _) hline) fun σ H Q ⟨F, α, S, ρ, s, e, q⟩ => ?_
  refine ⟨F, α, S, ρ, s, e, (Sat.bind q).imp (fun v H1 ⟨F1, α1, S1, d, x, s1, r1, q1⟩ => ?_) fun _ _ _ z => z⟩
  cases d with
  | str z =>
    cases r1
    refine ⟨⟨_, rfl⟩, F1, α1, S1, ρ, s1, e.ext x, (Sat.bind q1).imp (fun w H2 ⟨F2, α2, S2, d2, x2, s2, r2, q2⟩ => ?_) fun _ _ _ z => z⟩
    cases d2 with
    | str b =>
      cases r2
      dsimp only at q2
      split at q2
      · rename_i hz
        exact ⟨_, b, rfl, rfl, hz.1, hz.2, q2.lst s2 (strs_rp _)⟩
      · exact q2.elim
    | _ => exact q2.elim
  | _ => exact q1.elim
theorem je_splitO (ho : JE p N k sc o fo) (he : JE p N k sc e f) (hs : ∀ env, starEach [e] env = [(false, eval e env)] := by intro _; rfl) (hbase : ∀ env, attributeBase o "split" env (eval o env) = eval o env := by intro _; rfl) (hline : (apos.endLine == pos.line) = true := by rfl) :
    JE p N k sc (.Call (.Attribute o "split" apos) [e] [] pos) (semSplitO fo f) := fun W X c => by
  refine PE.imp (pe_split (ho W X c) (he W X c) (hs _) (hbase _) hline) fun σ H Q ⟨F, α, S, ρ, s, e, q⟩ => ?_
  refine ⟨F, α, S, ρ, s, e, (Sat.bind q).imp (fun v H1 ⟨F1, α1, S1, d, x, s1, r1, q1⟩ => ?_) fun _ _ _ z => z⟩
  cases d with
  | str z =>
    cases r1
    refine ⟨⟨_, rfl⟩, F1, α1, S1, ρ, s1, e.ext x, (Sat.bind q1).imp (fun w H2 ⟨F2, α2, S2, d2, x2, s2, r2, q2⟩ => ?_) fun _ _ _ z => z⟩
    cases d2 with
    | str b =>
      cases r2
      dsimp only at q2
      split at q2
      · rename_i hz
        exact ⟨_, b, rfl, rfl, hz.1, hz.2, q2.own (u := .lst _) s2 (strs_rp _)⟩
      · exact q2.elim
    | _ => exact q2.elim
  | _ => exact q1.elim
theorem je_count (ho : JE p N k sc o fo) (he : JE p N k sc e f) (hs : ∀ env, starEach [e] env = [(false, eval e env)] := by intro _; rfl) (hbase : ∀ env, attributeBase o "count" env (eval o env) = eval o env := by intro _; rfl) (hline : (apos.endLine == pos.line) = true := by rfl) :
    JE p N k sc (.Call (.Attribute o "count" apos) [e] [] pos) (semCount fo f) := fun W X c => by
  refine PE.imp (pe_m1 F.slot_str_count F.type_str_count mt_count (ho W X c) (he W X c) (hs _) (hbase _) hline) fun σ H Q ⟨F, α, S, ρ, s, e, q⟩ => ?_
  refine ⟨F, α, S, ρ, s, e, (Sat.bind q).imp (fun v H1 ⟨F1, α1, S1, d, x, s1, r1, q1⟩ => ?_) fun _ _ _ z => z⟩
  cases d with
  | str z =>
    cases r1
    refine ⟨⟨_, rfl⟩, F1, α1, S1, ρ, s1, e.ext x, (Sat.bind q1).imp (fun w H2 ⟨F2, α2, S2, d2, x2, s2, r2, q2⟩ => ?_) fun _ _ _ z => z⟩
    cases d2 with
    | str b =>
      cases r2
      exact ⟨_, b, rfl, rfl, q2.here s2 (.int _)⟩
    | _ => exact q2.elim
  | _ => exact q1.elim
/-- raise X('..') -/
theorem js_raise {x m : Str} {j : Nat} {p1 p2 p3 : Pos} (G : ExF p x) (hg : sc.names.lookup x = some .globalImplicit := by rfl) (hdb : (x == ("__debug__" : Str)) = false := by decide) :
    JS p N k sc (.Raise (some (.Call (.Name x p1) [.Constant (.str m) j p2] [] p3)) none pos) (sRaise x) := fun W X c => by
  obtain ⟨C, h1, h2, h3, h4, h5⟩ := G.ex
  have K := c.c.K
  refine PS.imp (ps_raise c.c.calm c.c.tk (pmk_own F.excBase_ValueError (by rw [K]; exact h2) (by rw [c.c.mg]; exact h1) (by rw [K]; exact h3) (raises_own (by rw [K]; exact h4) (by rw [K]; exact h5)) (by show X.env.scope.names.lookup x = _; rw [c.c.hsc]; exact hg) hdb)) fun Dn σ H ⟨F, α, S, ρ, s, e, q⟩ => ?_
  exact q σ (.ref C) none H F α (Ext.refl F α) s e ⟨C, h1, rfl, .inl ⟨rfl, rfl⟩⟩
/-- what an except suite's context gives -/
structure UOk (p : Pc) (N : List Str) (sc : Sco) (X : Cx) : Prop where
  K : X.K = p.K
  hN : X.N = N
  nd : N.Nodup
  hsc : X.env.scope = sc.toScope
def JU (p : Pc) (N : List Str) (sc : Sco) (ss : List Stmt) (f : SemS) : Prop := ∀ W X, UOk p N sc X → PSs X ss (LS p W f)
/-- return a constant -/
theorem ju_ret {v : V} {d : D} (he : ∀ X, PE X e (tC v)) (r : ∀ F α, Rp p F α v d) : JU p N sc [.Return (some e) pos] (sRet (semC d)) := fun W X c => by
  refine PSs.imp (pss_one (ps_ret (he X))) fun Dn σ H ⟨F, α, S, ρ, s, e, q⟩ => ?_
  exact q v H F α (Ext.refl F α) s (r F α)
theorem ju_bl {b : Bool} {j : Nat} {pq : Pos} : JU p N sc [.Return (some (.Constant (.bool b) j pq)) pos] (sRet (semC (.bl b))) := ju_ret (fun _ => pe_bl) fun _ _ => .bl b
theorem ju_str {b : Str} {j : Nat} {pq : Pos} : JU p N sc [.Return (some (.Constant (.str b) j pq)) pos] (sRet (semC (.str b))) := ju_ret (fun _ => pe_str) fun _ _ => .str b
/-- the clauses' suites -/
inductive JHs (p : Pc) (N : List Str) (sc : Sco) : List ExceptHandler → List (Str × SemS) → Prop
  | nil : JHs p N sc [] []
  | cons {x : Str} {f : SemS} {b₀ : Stmt} {suite : List Stmt} {np pos' : Pos} {hds : List ExceptHandler} {l : List (Str × SemS)} (hg : sc.names.lookup x = some .globalImplicit) (hd : (x == ("__debug__" : Str)) = false) (hm : ∃ C, p.mg x = some (.ref C)) (hs : JU p N sc (b₀ :: suite) f) (r : JHs p N sc hds l) :
      JHs p N sc (.ExceptHandler (some (.Name x np)) none (b₀ :: suite) pos' :: hds) ((x, f) :: l)
theorem SOk.tr {W Wo : WX} {X : Cx} (c : SOk p N k sc Wo X) {pn : List (Addr × Obj)} {xe : Value → Shared → Prop} (tk : Takes (X.tr pn xe) W) (pas : PassesOwn (model X.prog X.w) X.A X.env xe) : SOk p N k sc W (X.tr pn xe) :=
  ⟨⟨c.c.prog, c.c.w, c.c.K, c.c.mg, c.c.base, c.c.calm, c.c.hN, c.c.nd, c.c.hsc, c.c.room, tk, c.c.cd⟩, pas, c.fn, c.hs, c.hf, c.ex⟩
/-- the clauses as the layer has them -/
theorem hds_ok {W : WX} {X : Cx} (c : COk p N k sc W X) {hds : List ExceptHandler} {l : List (Str × SemS)} (h : JHs p N sc hds l) :
    ∃ L : List (Value × (Addr → Value → Option Addr → TS)), HdsOk X hds L ∧ L.length = l.length ∧ ∀ (n : Nat) (y : Str × SemS), l[n]? = some y → ∃ C, p.mg y.1 = some (.ref C) ∧ L[n]? = some (.ref C, fun _ _ _ => LS p W y.2) := by
  induction h with
  | nil => exact ⟨[], .nil, rfl, fun n y h => by simp at h⟩
  | @cons x f b₀ suite np pos' hds l hg hd hm hs r ih =>
    obtain ⟨L, h1, h2, h3⟩ := ih
    obtain ⟨C, hC⟩ := hm
    refine ⟨(.ref C, fun _ _ _ => LS p W f) :: L, .cons ⟨by show X.env.scope.names.lookup x = _; rw [c.hsc]; exact hg, hd, .inl (by rw [c.mg]; exact hC)⟩ (fun a oe cls d pn _ _ => hs W _ ⟨c.K, c.hN, c.nd, c.hsc⟩) h1, by simp [h2], fun n y hy => ?_⟩
    cases n with
    | zero =>
      simp at hy; subst hy
      exact ⟨C, hC, rfl⟩
    | succ n => simpa using h3 n y (by simpa using hy)
theorem wMany_ok {W : WX} {tk : Str → Str → Option Bool} (T : TkF p tk) {Dn : Ends} {x : Exn} {ρ : Env} {S : Sto} {F : Hp} {α : List Addr} : ∀ {l : List (Str × SemS)} {L : List (Value × (Addr → Value → Option Addr → TS))}, L.length = l.length → (∀ (n : Nat) (y : Str × SemS), l[n]? = some y → ∃ C, p.mg y.1 = some (.ref C) ∧ L[n]? = some (.ref C, fun _ _ _ => LS p W y.2)) →
    SatS p W F α (sHands tk x l ρ S) Dn → ∀ {σ : L2.St} {cls : Value} {dd : Option Addr} {H : Hp}, StOk p F α S H → EnvOk p F α σ ρ → ExR p F α x cls dd → wMany p.K W Dn L cls dd σ H
  | [], [], _, _, h, σ, cls, dd, H, s, e, r => h σ cls dd H F α (Ext.refl F α) s e r
  | y :: l, z :: L, hl, hy, h, σ, cls, dd, H, s, e, r => by
    obtain ⟨C2, hC2, hz⟩ := hy 0 y rfl
    have hz : z = (.ref C2, fun _ _ _ => LS p W y.2) := by simpa using hz
    subst hz
    obtain ⟨C, hC, rfl, hx⟩ := r
    have h : SatS p W F α (match tk x.cls y.1 with | some true => y.2 ρ S | some false => sHands tk x l ρ S | none => .no) Dn := h
    cases ht : tk x.cls y.1 with
    | none => rw [ht] at h; exact h.elim
    | some b =>
      obtain ⟨C3, hC3, hb⟩ := T.ok _ _ _ ht C hC
      rw [hC2] at hC3; cases hC3
      refine ⟨b, hb, fun e1 a ha => ?_, fun e1 => ?_⟩
      · subst e1
        rw [ht] at h
        exact ⟨F, α, S, ρ, s, e, h⟩
      · subst e1
        rw [ht] at h
        exact wMany_ok T (by simpa using hl) (fun n y' h' => by simpa using hy (n + 1) y' (by simpa using h')) h s e ⟨C, hC, rfl, hx⟩
theorem js_try {tk : Str → Str → Option Bool} (T : TkF p tk) {body : List Stmt} {fb : SemS} {h₀ : ExceptHandler} {hds : List ExceptHandler} {l : List (Str × SemS)} (hb : JSs p N k sc body fb) (hh : JHs p N sc (h₀ :: hds) l) : JS p N k sc (.Try body (h₀ :: hds) [] [] pos) (sTry tk fb l) := fun W X c => by
  obtain ⟨L, h1, h2, h3⟩ := hds_ok (k := k) c.c hh
  refine PS.imp (ps_try_many (tb := fun W => LS p W fb) c.hs c.hf c.c.tk (fun W' pn xe tk' pas => hb W' _ (c.tr tk' pas)) h1) fun Dn σ H ⟨F, α, S, ρ, s, e, q⟩ => ?_
  refine ⟨F, α, S, ρ, s, e, ?_⟩
  unfold sTry at q
  cases hr : fb ρ S with
  | ex x ρ1 S1 =>
    rw [hr] at q
    intro σ1 cls dd H1 F1 α1 x1 s1 e1 r1
    rw [c.c.K]
    exact wMany_ok T h2 h3 (SatS.ext x1 q) s1 e1 r1
  | nx ρ1 S1 => rw [hr] at q; exact q
  | rt ρ1 S1 => rw [hr] at q; exact q
  | bk ρ1 S1 => rw [hr] at q; exact q
  | ct ρ1 S1 => rw [hr] at q; exact q
  | no => rw [hr] at q; exact q
end
end GB
/-! A def of the text; what the top has written. -/
namespace GB
open PySem L2 PyProof.Rows
def startE (n : Nat) (ds : List D) : Env := ds.map some ++ List.replicate (n - ds.length) none
/-- a def's body, run -/
def semFn (n : Nat) (fs : SemS) : List D → Sto → R D := fun ds S => match fs (startE n ds) S with
  | .nx _ S1 => .ok .non S1
  | .rt d S1 => .ok d S1
  | .ex x _ S1 => .ex x S1
  | _ => .no
theorem startE_ok {p : Pc} {F : Hp} {α : List Addr} {N : List Str} {vs : List V} {ds : List D} (r : Rps p F α vs ds) : EnvOk p F α (L2.start N vs) (startE N.length ds) := by
  refine ⟨fun i d h => ?_, by unfold startE L2.start; simp [r.length]⟩
  unfold startE at h
  unfold L2.start
  by_cases hi : i < ds.length
  · rw [List.getElem?_append_left (by simpa using hi)] at h
    rw [List.getElem?_append_left (by rw [List.length_map, r.length]; exact hi)]
    rw [List.getElem?_map] at h
    cases hd : ds[i]? with
    | none => rw [hd] at h; cases h
    | some d' =>
      rw [hd] at h; cases h
      obtain ⟨v, h1, h2⟩ := r.get hd
      exact ⟨v, by rw [List.getElem?_map, h1]; rfl, h2⟩
  · rw [List.getElem?_append_right (by simpa using hi), List.getElem?_replicate] at h
    split at h <;> cases h
/-- a def as the top has it -/
structure DefF (p : Pc) (x : Str) (st : Stmt) : Prop where
  ex : ∃ f fd, p.mg x = some (.ref f) ∧ FunD p.K x x (defArgs st) (defBody st) (defScope st) [] [] f fd ∧ CodeF p fd.code (x ++ ".<locals>.")
/-- the rule for a def, its code object told -/
theorem okC {P : Program} {w : World} {K : PySem.W.Frag} {mg : Str → Option Value} {base : Heap} {x qual : Str} {params : Arguments} {body : List Stmt} {scope : Scope} {dvs : List V} {kws : List (Str × V)} {f : Addr} {fd : FuncData} {CX : CXT} {N ps : List Str} {k : Nat} {sp : Sp}
    (F : FunD K x qual params body scope dvs kws f fd) (S : FnScope N ps scope) (len : ∀ vs H Q E, sp vs H Q E → vs.length = ps.length)
    (hbody : ∀ (A : Around) (outer : List PySem.Env) (s : Shared) (H : Hp) (vs : List V) (Q : VK) (E : XK), Room k (A.deeper (envOfC qual scope s.heap.objs.size f fd.code)) → sp vs H Q E →
      ∃ t, PSs (cxOf CX P w K mg base N qual scope f fd.code A outer s H E) body t ∧ t { nx := fun _ H' => Q .non H', rt := Q } (L2.start N vs) H) : FnOk P w K mg base CX (k + 1) f fd ps sp := by
  obtain ⟨oc, od, dV, kV, doc, pm, an, cdv, ct, osl, rfl, lk, hcd, _, _⟩ := F.ex
  exact fn_of lk hcd S len fun A outer s H vs Q E hr hsp => hbody A outer s H vs Q E hr hsp
theorem fn_def {p : Pc} {x : Str} {st : Stmt} {N ps : List Str} {k : Nat} {fs : SemS} (Df : DefF p x st) (Sc : FnScope N ps (defScope st))
    (hbind : ∀ (dV kV doc pm : Value) (an : Option Addr) (cdv ct : Value) (us : List Value), us.length = ps.length → bindArgs (PySem.W.fnOf x x (defArgs st) (defBody st) (defScope st) .none kV doc pm an cdv ct) ⟨us, []⟩ = pure (ps.zip us))
    (hb : JSs p N k (ds st) (defBody st) fs) : Fn p x (k + 1) ps.length (semFn N.length fs) := by
  obtain ⟨f, fd, hm, FD, hc⟩ := Df.ex
  refine ⟨f, fd, ps, hm, FD.kp, FD.bindsN fun kV doc pm an cdv ct us hl => hbind .none kV doc pm an cdv ct us hl, rfl, ?_⟩
  refine okC FD Sc (fun vs H Q E h => ?_) fun A outer s H vs Q E hr h => ⟨LS p (fun cls d _ H' => E cls d H') fs, ?_, ?_⟩
  · obtain ⟨F, α, S, ds, _, r, hl, _⟩ := h
    rw [r.length]; exact hl
  · exact hb _ _ ⟨⟨rfl, rfl, rfl, rfl, rfl, rfl, rfl, Sc.nd, rfl, hr, takes_of rfl rfl rfl rfl, fun _ => hc⟩, passes_of rfl, fun _ => rfl, rfl, rfl, rfl⟩
  · obtain ⟨F, α, S, ds, s', r, hl, q⟩ := h
    refine ⟨F, α, S, startE N.length ds, s', startE_ok r, ?_⟩
    unfold semFn at q
    cases hf : fs (startE N.length ds) S with
    | nx ρ S1 => rw [hf] at q; exact fun σ H' F' α' x s1 _ => q _ H' F' α' x s1 .non
    | rt d S1 => rw [hf] at q; exact q
    | bk ρ S1 => rw [hf] at q; exact q.elim
    | ct ρ S1 => rw [hf] at q; exact q.elim
    | ex y ρ S1 => rw [hf] at q; exact fun σ cls dd H' F' α' x s1 _ r => q cls dd H' F' α' x s1 r
    | no => rw [hf] at q; exact q.elim

/-! ### what is left behind is forgotten -/
mutual
/-- no reference to the store's places from n on -/
def Cl (n : Nat) : D → Prop
  | .tup xs => Cls n xs
  | .lst xs => Cls n xs
  | .own k => k < n
  | _ => True
def Cls (n : Nat) : List D → Prop
  | [] => True
  | d :: ds => Cl n d ∧ Cls n ds
end
def ClO (n : Nat) : O → Prop
  | .lst xs => Cls n xs
  | .dK kvs => ∀ kv ∈ kvs, Cl n kv.2
  | .dT kvs => ∀ kv ∈ kvs, Cl n kv.2
  | .ins _ fs => ∀ kv ∈ fs, Cl n kv.2
  | .frz o => ClO n o
section
variable {p : Pc} {F : Hp} {α : List Addr} {n : Nat}
theorem take_get {n k : Nat} {b : Addr} (h : α[k]? = some b) (hk : k < n) : (α.take n)[k]? = some b := by
  rw [List.getElem?_take_of_lt hk]; exact h
mutual
theorem Rp.cut : ∀ (d : D) (v : V), Rp p F α v d → Cl n d → Rp p F (α.take n) v d
  | .non, _, h, _ => by cases h; exact .non
  | .bl b, _, h, _ => by cases h; exact .bl b
  | .int i, _, h, _ => by cases h; exact .int i
  | .str i, _, h, _ => by cases h; exact .str i
  | .tup ds, _, h, c => by
    cases h with
    | tup h1 h2 => exact .tup h1 (Rps.cut ds _ h2 c)
  | .lst ds, _, h, c => by
    cases h with
    | lst h1 h2 => exact .lst h1 (Rps.cut ds _ h2 c)
  | .own k, _, h, c => by
    cases h with
    | own h1 => exact .own (take_get h1 c)
  | .ty n, _, h, _ => by cases h; exact .ty n
  | .gl n, _, h, _ => by
    cases h with
    | gl h1 => exact .gl h1
theorem Rps.cut : ∀ (ds : List D) (vs : List V), Rps p F α vs ds → Cls n ds → Rps p F (α.take n) vs ds
  | [], _, h, _ => by cases h; exact .nil
  | d :: ds, _, h, c => by
    cases h with
    | cons h1 h2 => exact .cons (Rp.cut d _ h1 c.1) (Rps.cut ds _ h2 c.2)
end
theorem kvR.cut {κ : Type} : ∀ {ks : List (κ × V)} {ls : List (κ × D)}, kvR p F α ks ls → (∀ kv ∈ ls, Cl n kv.2) → kvR p F (α.take n) ks ls
  | _, _, .nil, _ => .nil
  | _, _, .cons r t, c => .cons ⟨r.1, Rp.cut _ _ r.2 (c _ (List.mem_cons_self ..))⟩ (kvR.cut t fun kv h => c kv (List.mem_cons_of_mem _ h))
theorem OU.cut : ∀ {o : O} {u : HO}, OU p F α o u → ClO n o → OU p F (α.take n) o u := by
  intro o
  induction o with
  | lst ds => intro u h c; cases u <;> first | exact Rps.cut _ _ h c | exact h.elim
  | dK ds => intro u h c; cases u <;> first | exact kvR.cut h c | exact h.elim
  | dT ds => intro u h c; cases u <;> first | exact kvR.cut h c | exact h.elim
  | ins C fs => intro u h c; cases u <;> first | exact ⟨h.1, kvR.cut h.2 c⟩ | exact h.elim
  | frz o ih => intro u h c; cases u <;> first | exact ih h c | exact h.elim
mutual
theorem Rp.cl : ∀ (d : D) (v : V), Rp p F α v d → Cl α.length d
  | .non, _, _ => trivial
  | .bl b, _, _ => trivial
  | .int i, _, _ => trivial
  | .str i, _, _ => trivial
  | .tup ds, _, h => by
    cases h with
    | tup h1 h2 => exact Rps.cl ds _ h2
  | .lst ds, _, h => by
    cases h with
    | lst h1 h2 => exact Rps.cl ds _ h2
  | .own k, _, h => by
    cases h with
    | own h1 => exact (List.getElem?_eq_some_iff.mp h1).1
  | .ty n, _, _ => trivial
  | .gl n, _, _ => trivial
theorem Rps.cl : ∀ (ds : List D) (vs : List V), Rps p F α vs ds → Cls α.length ds
  | [], _, _ => trivial
  | d :: ds, _, h => by
    cases h with
    | cons h1 h2 => exact ⟨Rp.cl d _ h1, Rps.cl ds _ h2⟩
end
theorem kvR.cl {κ : Type} : ∀ {ks : List (κ × V)} {ls : List (κ × D)}, kvR p F α ks ls → ∀ kv ∈ ls, Cl α.length kv.2
  | _, _, .nil, kv, h => by cases h
  | _, _, .cons r t, kv, h => by
    rcases List.mem_cons.mp h with rfl | h
    · exact Rp.cl _ _ r.2
    · exact kvR.cl t kv h
theorem OU.cl : ∀ {o : O} {u : HO}, OU p F α o u → ClO α.length o := by
  intro o
  induction o with
  | lst ds => intro u h; cases u <;> first | exact Rps.cl _ _ h | exact h.elim
  | dK ds => intro u h; cases u <;> first | exact kvR.cl h | exact h.elim
  | dT ds => intro u h; cases u <;> first | exact kvR.cl h | exact h.elim
  | ins C fs => intro u h; cases u <;> first | exact kvR.cl h.2 | exact h.elim
  | frz o ih => intro u h; cases u <;> first | exact ih h | exact h.elim
/-- the store cut down to its first n objects, what stands there closed -/
theorem StOk.cut {S : Sto} {H : Hp} (s : StOk p F α S H) (hn : n ≤ S.length) (c : ∀ k o, k < n → S[k]? = some o → ClO n o) : StOk p F (α.take n) (S.take n) H := by
  refine ⟨s.sub, fun k o h => ?_, fun k a h => ?_, fun i j a h1 h2 => ?_, ?_, s.gd, s.tb⟩
  · have hk : k < n := by
      have := (List.getElem?_eq_some_iff.mp h).1
      rw [List.length_take] at this; omega
    rw [List.getElem?_take_of_lt hk] at h
    obtain ⟨a, u, h1, h2, h3⟩ := s.own k o h
    exact ⟨a, u, take_get h1 hk, h2, h3.cut (c k o hk h)⟩
  · have hk : k < n := by
      have := (List.getElem?_eq_some_iff.mp h).1
      rw [List.length_take] at this; omega
    rw [List.getElem?_take_of_lt hk] at h
    exact s.out k a h
  · have hi : i < n := by
      have := (List.getElem?_eq_some_iff.mp h1).1
      rw [List.length_take] at this; omega
    have hj : j < n := by
      have := (List.getElem?_eq_some_iff.mp h2).1
      rw [List.length_take] at this; omega
    rw [List.getElem?_take_of_lt hi] at h1
    rw [List.getElem?_take_of_lt hj] at h2
    exact s.inj i j a h1 h2
  · rw [List.length_take, List.length_take, s.len]
end
/-- r' is r with the new objects of the store forgotten (or r itself) -/
def GcTo (S : Sto) (r r' : R D) : Prop := r' = .no ∨ r = r' ∨
  (∃ d S1, r = .ok d S1 ∧ r' = .ok d (S1.take S.length) ∧ S.length ≤ S1.length ∧ Cl S.length d ∧ ∀ k o, k < S.length → S1[k]? = some o → S[k]? = some o ∨ ClO S.length o) ∨
  ∃ x S1, r = .ex x S1 ∧ r' = .ex x (S1.take S.length) ∧ S.length ≤ S1.length ∧ x.fs = [] ∧ ∀ k o, k < S.length → S1[k]? = some o → S[k]? = some o ∨ ClO S.length o
theorem GcTo.sat {p : Pc} {F : Hp} {α : List Addr} {S : Sto} {H : Hp} {r r' : R D} {Q : VK} {E : XK} (s : StOk p F α S H) (g : GcTo S r r') (h : Sat p F α r' Q E) : Sat p F α r Q E := by
  rcases g with rfl | rfl | ⟨d, S1, rfl, rfl, hl, hd, hc⟩ | ⟨x, S1, rfl, rfl, hl, hx, hc⟩
  · exact h.elim
  · exact h
  · intro v H' F' α' x s' r
    have hS := s.len
    have key : ∀ k o, k < S.length → S1[k]? = some o → ClO S.length o := fun k o hk ho => by
      rcases hc k o hk ho with e | e
      · obtain ⟨a, u, h1, h2, h3⟩ := s.own k o e
        have := h3.cl
        rw [hS] at this; exact this
      · exact e
    refine h v H' F' (α'.take S.length) ⟨x.f, fun k b hb => ?_⟩ (s'.cut hl key) (Rp.cut _ _ r hd)
    exact take_get (x.a k b hb) (by rw [← hS]; exact (List.getElem?_eq_some_iff.mp hb).1)
  · intro cls dd H' F' α' x1 s' r
    have hS := s.len
    have key : ∀ k o, k < S.length → S1[k]? = some o → ClO S.length o := fun k o hk ho => by
      rcases hc k o hk ho with e | e
      · obtain ⟨a, u, h1, h2, h3⟩ := s.own k o e
        have := h3.cl
        rw [hS] at this; exact this
      · exact e
    obtain ⟨C, h1, h2, h3⟩ := r
    refine h cls dd H' F' (α'.take S.length) ⟨x1.f, fun k b hb => take_get (x1.a k b hb) (by rw [← hS]; exact (List.getElem?_eq_some_iff.mp hb).1)⟩ (s'.cut hl key) ⟨C, h1, h2, ?_⟩
    rcases h3 with h3 | ⟨d, vs, e1, e2, e3⟩
    · exact .inl h3
    · rw [hx] at e3
      cases e3
      exact .inr ⟨d, [], e1, e2, by rw [hx]; exact .nil⟩
/-- a def's promise, in other words -/
theorem Fn.to {p : Pc} {x : Str} {k n : Nat} {g g' : List D → Sto → R D} (h : Fn p x k n g) (hg : ∀ ds S, ds.length = n → GcTo S (g ds S) (g' ds S)) : Fn p x k n g' := by
  obtain ⟨f, fd, ps, h1, h2, h3, h4, h5⟩ := h.ex
  exact ⟨f, fd, ps, h1, h2, h3, h4, h5.imp fun vs H Q E ⟨F, α, S, ds, s, r, hl, q⟩ => ⟨F, α, S, ds, s, r, hl, GcTo.sat s (hg ds S hl) q⟩⟩
theorem Fn.mono {p : Pc} {x : Str} {k j n : Nat} {g : List D → Sto → R D} (h : Fn p x k n g) (hj : k ≤ j) : Fn p x j n g := by
  obtain ⟨f, fd, ps, h1, h2, h3, h4, h5⟩ := h.ex
  exact ⟨f, fd, ps, h1, h2, h3, h4, h5.mono hj⟩
/-! ### the top -/
section
variable {P : Program} {w : World} {K : PySem.W.Frag} {h : Heap} {mg : Str → Option Value} {base : Heap} {fa : List He.Fa} {fn : List He.DefD}
/-- the facts of a top -/
structure Top (p : Pc) (fa : List He.Fa) (fn : List He.DefD) (ex : PySem.W.Frag → Bool) : Prop where
  K : ∃ h : Heap, p.K.In h ∧ h.Ns mainGlobals p.mg
  c : He.SaysD fa fn p.K
  tb : ∀ d ∈ fn, ∃ P, LamX.TabB p.base p.mg (He.codeOf p.K d.at_) P ∧ (P, (d.name ++ ".<locals>.") ++ "<lambda>") ∈ p.T ∧ ∀ t ∈ p.T, t.1 = P → t.2 = (d.name ++ ".<locals>.") ++ "<lambda>"
  ex : ex p.K = true
variable {p : Pc} {ex : PySem.W.Frag → Bool} (T : Top p fa fn ex)
include T
theorem Top.free {x : Str} (i : Nat) (hi : fa[i]? = some (.free x) := by rfl) : p.mg x = none := by
  obtain ⟨h, X, G⟩ := T.K
  exact He.free_ok X G (T.c.fact i hi)
theorem Top.int {x : Str} {n : Int} (i : Nat) (hi : fa[i]? = some (.int x n) := by rfl) : GC p x (.int n) := by
  obtain ⟨h, X, G⟩ := T.K
  obtain ⟨t, e⟩ := He.int_ok X G (T.c.fact i hi)
  exact ⟨_, .int n, e, ⟨t, rfl⟩, fun _ _ => .int n⟩
theorem Top.str {x z : Str} (i : Nat) (hi : fa[i]? = some (.str x z) := by rfl) : GC p x (.str z) := by
  obtain ⟨h, X, G⟩ := T.K
  obtain ⟨t, e⟩ := He.str_ok X G (T.c.fact i hi)
  exact ⟨_, .str z, e, ⟨t, rfl⟩, fun _ _ => .str z⟩
theorem Top.def_ {x : Str} {st : Stmt} (i j : Nat) (hi : fa[i]? = some (.glo x) := by rfl) (hj : fn[j]? = some ⟨(x, none), x, x, defArgs st, defBody st, defScope st, [], []⟩ := by rfl) : DefF p x st := by
  obtain ⟨h, X, G⟩ := T.K
  obtain ⟨fd, F⟩ := T.c.def_ j hj
  refine ⟨_, fd, He.glo_ok X G (T.c.fact i hi), F, ?_⟩
  obtain ⟨P, h1, h2, h3⟩ := T.tb _ (List.mem_of_getElem? hj)
  obtain ⟨oc, od, dV, kV, doc, pm, an, cdv, ct, osl, rfl, lk, hcd, _, _⟩ := F.ex
  obtain ⟨c, rfl⟩ := He.codeIn_ref hcd
  rw [He.codeOf_eq lk rfl] at h1
  exact ⟨c, P, rfl, h1, h2, h3⟩
theorem Top.exc {x : Str} (i j : Nat) (hi : fa[i]? = some (.glo x) := by rfl) (hj : fa[j]? = some (.exc x) := by rfl) : ExF p x := by
  obtain ⟨h, X, G⟩ := T.K
  obtain ⟨h1, h2, h3, h4⟩ := He.exc_ok (T.c.fact j hj)
  exact ⟨_, He.glo_ok X G (T.c.fact i hi), h1, h2, h3, h4⟩
end
end GB
/-! The law's end. -/
namespace GB
open PySem L2 PyProof.Rows
/-- the script, as the law's def gets it -/
def ScriptAt (ns : List Int) (sc : D) (S : Sto) : Prop := (sc = .lst (ns.map .int) ∧ S = []) ∨ (sc = .own 0 ∧ S = [.frz (.lst (ns.map .int))])
theorem ScriptAt.lst {ns : List Int} {sc : D} {S : Sto} (h : ScriptAt ns sc S) : lstOf S sc = some (ns.map .int) := by
  rcases h with ⟨rfl, rfl⟩ | ⟨rfl, rfl⟩ <;> rfl
theorem ints_rp {p : Pc} {F : Hp} {α : List Addr} : ∀ l : List Int, Rps p F α (l.map V.int) (l.map D.int)
  | [] => .nil
  | c :: l => .cons (.int _) (ints_rp l)
theorem CX_no {P : Program} {w : World} {H : Hp} {s : Shared} {e : Value} {s' : Shared} (h : L2.CX P w [] H s (fun _ _ _ => False) e s') : False := by
  obtain ⟨_, _, _, _, _, _, _, _, _, _, _, _, z⟩ := h
  exact z.elim
def spLaw (K : PySem.W.Frag) (n : Nat) (cs : List (Addr × Addr)) : Sp := fun vs H Q _ => ∃ (a : Addr) (ns : List Int), vs = [.ref a] ∧ ns.length ≤ n ∧ (∀ z ∈ ns, Builtin.Int.intBits z ≤ 1048576) ∧ (∀ t ∈ cs, H t.2 = some (.tbl #[])) ∧ SqL K H a (ns.map V.int) ∧ ∀ H', Q (.bl true) H'
/-- the law's script as data, at its entry -/
theorem script_at {p : Pc} {H : Hp} {a : Addr} {ns : List Int} (hO : ∀ t ∈ p.T, H t.1 = some (.tbl #[])) (hS : SqL p.K H a (ns.map V.int)) : ∃ F α S sc, StOk p F α S H ∧ Rp p F α (.ref a) sc ∧ ScriptAt ns sc S := by
  have tabs : LamX.Tabs p.T H := fun t ht => LamX.TabS.nil (hO t ht)
  rcases hS with (h | ⟨o, h⟩) | h
  · refine ⟨fun b => if b = a then some (.lst (ns.map V.int)) else none, [], [], .lst (ns.map .int), ⟨fun b o e => ?_, fun k v e => (by cases e), fun k b e => (by cases e), fun i j b h1 h2 => (by cases h1), rfl, fun b o1 o2 u e => ?_, ⟨tabs, fun b o e => ?_⟩⟩, .lst (.inl (if_pos rfl)) (ints_rp ns), .inl ⟨rfl, rfl⟩⟩
    · by_cases hb : b = a
      · rw [if_pos hb] at e; cases e; rw [hb]; exact h
      · rw [if_neg hb] at e; cases e
    · by_cases hb : b = a
      · rw [if_pos hb] at e; cases e
      · rw [if_neg hb] at e; cases e
    · by_cases hb : b = a
      · rw [if_pos hb] at e; cases e; intro ps z; cases z
      · rw [if_neg hb] at e; cases e
  · refine ⟨fun _ => none, [a], [.frz (.lst (ns.map .int))], .own 0, ⟨fun b o e => (nomatch e), fun k v e => ?_, fun k b e => .inl rfl, fun i j b h1 h2 => ?_, rfl, fun b o1 o2 u e => (nomatch e), ⟨tabs, fun b o e => (nomatch e)⟩⟩, .own rfl, .inr ⟨rfl, rfl⟩⟩
    · cases k with
      | zero =>
        cases e
        exact ⟨a, _, rfl, h, ints_rp ns⟩
      | succ k => cases e
    · cases i <;> cases j <;> first | rfl | (simp at h1 h2)
  · exact ⟨fun _ => none, [], [], .lst (ns.map .int), ⟨fun b o e => (nomatch e), fun k v e => (by cases e), fun k b e => (by cases e), fun i j b h1 h2 => (by cases h1), rfl, fun b o1 o2 u e => (nomatch e), ⟨tabs, fun b o e => (nomatch e)⟩⟩, .lst (.inr (.inr h)) (ints_rp ns), .inl ⟨rfl, rfl⟩⟩
theorem nodup_inj {α β : Type} {f : α → β} : ∀ {l : List α}, (l.map f).Nodup → ∀ a ∈ l, ∀ b ∈ l, f a = f b → a = b := by
  intro l
  induction l with
  | nil => intro _ a ha; cases ha
  | cons x l ih =>
    intro nd a ha b hb e
    rw [List.map_cons, List.nodup_cons] at nd
    rcases List.mem_cons.mp ha with h1 | h1
    · rcases List.mem_cons.mp hb with h2 | h2
      · rw [h1, h2]
      · exact absurd (List.mem_map.mpr ⟨b, h2, by rw [← e, h1]⟩) nd.1
    · rcases List.mem_cons.mp hb with h2 | h2
      · exact absurd (List.mem_map.mpr ⟨a, h1, by rw [e, h2]⟩) nd.1
      · exact ih nd.2 a h1 b h2 e
/-- no two defs share a table -/
def apartB (fn : List He.DefD) (K : PySem.W.Frag) : Bool := decide ((fn.map fun d => (He.cT K d.at_).2).Nodup)
def exA (fn : List He.DefD) (ex : PySem.W.Frag → Bool) (K : PySem.W.Frag) : Bool := apartB fn K && ex K
abbrev tfA (fn : List He.DefD) : List He.Defn := fn.map fun d => d.at_
theorem law_walk {l : PySem.W.OpenLaw} {n k : Nat} {q : Program} {loose : List Str} {XP : (Str → Option Value) → Heap → Prop} {d : DefRec} {st : Stmt} {fa : List He.Fa} {fn : List He.DefD} {ex : PySem.W.Frag → Bool} {m : Nat}
    (hn : l.most = some n) (hn2 : n ≤ sizeLine) (hdf : d.params.defaults = []) (hdn : d.name = ("law" : Str)) (hr : Room (k + 1) callerA) (i j : Nat) (hi : fa[i]? = some (.glo "law")) (hj : fn[j]? = some ⟨("law", none), "law", "law", defArgs st, defBody st, defScope st, [], []⟩)
    (hb : ∀ (kV doc pm : Value) (an : Option Addr) (cdv ct : Value) (us : List Value), us.length = 1 → bindArgs (PySem.W.fnOf "law" "law" (defArgs st) (defBody st) (defScope st) .none kV doc pm an cdv ct) ⟨us, []⟩ = pure (([("script" : Str)]).zip us))
    {N : List Str} (hN : FnScope N ["script"] (defScope st)) (fs : SemS)
    (hf : ∀ p : Pc, p.P = l.prog → Top p fa fn ex → JSs p N k (ds st) (defBody st) fs)
    (hg : ∀ ns : List Int, ns.length ≤ n → (∀ z ∈ ns, Builtin.Int.intBits z ≤ 1048576) → ∀ sc S, ScriptAt ns sc S → ∃ S1, semFn N.length fs [sc] S = .ok (.bl true) S1) :
    PySem.W.WalkO q loose XP (He.hookX m fa fn [] (tfA fn) (exA fn ex)).says l.row.toRowW d [] (fun f vs => PySem.call f vs) := by
  refine LamX.walk_ofTsE (CX := fun w => L2.CX l.prog w) (k := k + 1) (n := n) (x := "script") hn hn2 hdf hr (fun w mg fa' h Y G hmg => ?_) fun w H s e s' h => CX_no h
  obtain ⟨K, KX, c⟩ := Y
  rw [hdn] at hmg
  have e := hmg.symm.trans (He.glo_ok KX G (c.t.d.fact i hi))
  obtain rfl : fa' = He.ga K "law" := by cases e; rfl
  obtain ⟨fd, FD⟩ := c.t.d.def_ j hj
  have tf : ∀ t ∈ fn.map (fun d => He.cT K d.at_), ∃ z ∈ tfA fn, t = He.cT K z := fun t ht => by
    obtain ⟨dd, hd, rfl⟩ := List.mem_map.mp ht
    exact ⟨_, List.mem_map.mpr ⟨dd, hd, rfl⟩, rfl⟩
  refine ⟨K, KX, fd, fn.map (fun d => He.cT K d.at_), spLaw K n (fn.map fun d => He.cT K d.at_), fun t ht => ?_, fun t ht => ?_, fun t ht => ?_, fun s u => FunD.bindsA (ps := ["script"]) FD hb s [u] rfl, fun H a ns hl hbt hO hS => ⟨a, ns, rfl, hl, hbt, hO, hS, fun _ => rfl⟩, fun base hK hB hT => ?_⟩
  · obtain ⟨z, hz, rfl⟩ := tf t ht
    exact c.empty z hz
  · obtain ⟨z, hz, rfl⟩ := tf t ht
    exact c.out z hz
  · obtain ⟨z, hz, rfl⟩ := tf t ht
    exact PySem.W.codeHd_of_K KX (c.hd z hz)
  · obtain ⟨ex1, ex2⟩ := He.ba c.more
    have nd : (fn.map fun d => (He.cT K d.at_).2).Nodup := of_decide_eq_true ex1
    have T : Top ⟨l.prog, w, K, mg, base, fn.map fun d => ((He.cT K d.at_).2, (d.name ++ ".<locals>.") ++ "<lambda>")⟩ fa fn ex := by
      refine ⟨⟨_, KX, G⟩, c.t.d, fun dd hd => ⟨(He.cT K dd.at_).2, hT _ (List.mem_map.mpr ⟨dd, hd, rfl⟩), List.mem_map.mpr ⟨dd, hd, rfl⟩, fun t ht e => ?_⟩, ex2⟩
      obtain ⟨d2, hd2, rfl⟩ := List.mem_map.mp ht
      rw [nodup_inj nd d2 hd2 dd hd e]
    have hc : CodeF ⟨l.prog, w, K, mg, base, fn.map fun d => ((He.cT K d.at_).2, (d.name ++ ".<locals>.") ++ "<lambda>")⟩ fd.code ("law" ++ ".<locals>.") := by
      obtain ⟨P, h1, h2, h3⟩ := T.tb _ (List.mem_of_getElem? hj)
      obtain ⟨oc, od, dV, kV, doc, pm, an, cdv, ct, osl, rfl, lk, hcd, _, _⟩ := FD.ex
      obtain ⟨c, rfl⟩ := He.codeIn_ref hcd
      rw [He.codeOf_eq lk rfl] at h1
      exact ⟨c, P, rfl, h1, h2, h3⟩
    refine okC (k := k) FD hN (fun vs H Q E h => ?_) (fun A outer s H vs Q E hr h => ⟨LS ⟨l.prog, w, K, mg, base, fn.map fun d => ((He.cT K d.at_).2, (d.name ++ ".<locals>.") ++ "<lambda>")⟩ (fun cls d _ H' => E cls d H') fs, ?_, ?_⟩)
    · obtain ⟨a, ns, rfl, _⟩ := h
      rfl
    · exact hf _ rfl T _ _ ⟨⟨rfl, rfl, rfl, rfl, rfl, rfl, rfl, hN.nd, rfl, hr, takes_of rfl rfl rfl rfl, fun _ => hc⟩, passes_of rfl, fun _ => rfl, rfl, rfl, rfl⟩
    · obtain ⟨a, ns, rfl, hl, hbt, hO, hS, q⟩ := h
      obtain ⟨F, α, S, sc, s', r, hsc⟩ := script_at (p := ⟨l.prog, w, K, mg, base, fn.map fun d => ((He.cT K d.at_).2, (d.name ++ ".<locals>.") ++ "<lambda>")⟩) (fun t ht => by
        obtain ⟨d2, hd2, rfl⟩ := List.mem_map.mp ht
        exact hO _ (List.mem_map.mpr ⟨d2, hd2, rfl⟩)) hS
      obtain ⟨S1, h1⟩ := hg ns hl hbt sc S hsc
      refine ⟨F, α, S, startE N.length [sc], s', startE_ok (.cons r .nil), ?_⟩
      unfold semFn at h1
      cases hf : fs (startE N.length [sc]) S with
      | rt d S2 =>
        rw [hf] at h1
        cases h1
        intro v H' F' α' x s1 r1
        cases r1
        exact q H'
      | nx ρ S2 => rw [hf] at h1; cases h1
      | bk ρ S2 => rw [hf] at h1; cases h1
      | ct ρ S2 => rw [hf] at h1; cases h1
      | ex y ρ S2 => rw [hf] at h1; cases h1
      | no => rw [hf] at h1; cases h1
end GB
/-! What the printed derivations lean on. -/
namespace GB
open PySem L2 PyProof.Rows
/-- a def that is not come to at this depth -/
theorem fn_zero {p : Pc} {x : Str} {st : Stmt} {N ps : List Str} {k n : Nat} (Df : DefF p x st) (Sc : FnScope N ps (defScope st))
    (hbind : ∀ (dV kV doc pm : Value) (an : Option Addr) (cdv ct : Value) (us : List Value), us.length = ps.length → bindArgs (PySem.W.fnOf x x (defArgs st) (defBody st) (defScope st) .none kV doc pm an cdv ct) ⟨us, []⟩ = pure (ps.zip us))
    (hn : ps.length = n) : Fn p x k n (fun _ _ => .no) := by
  obtain ⟨f, fd, hm, FD, _⟩ := Df.ex
  refine ⟨f, fd, ps, hm, FD.kp, FD.bindsN fun kV doc pm an cdv ct us hl => hbind .none kV doc pm an cdv ct us hl, hn, ?_⟩
  exact ⟨fun vs H Q E ⟨F, α, S, ds, _, r, hl, q⟩ => q.elim, fun A outer s H args us vs Q E hr he hb hv ⟨F, α, S, ds, _, r, hl, q⟩ => q.elim⟩
def tkOf (L : List (Str × Str × Bool)) : Str → Str → Option Bool := fun x c => (L.find? fun e => decide (e.1 = x) && decide (e.2.1 = c)).map fun e => e.2.2
section
variable {p : Pc} {fa : List He.Fa} {fn : List He.DefD} {ex : PySem.W.Frag → Bool} (T : Top p fa fn ex)
include T
theorem Top.glo {x : Str} (i : Nat) (hi : fa[i]? = some (.glo x) := by rfl) : ∃ C, p.mg x = some (.ref C) := by
  obtain ⟨h, X, G⟩ := T.K
  exact ⟨_, He.glo_ok X G (T.c.fact i hi)⟩
theorem Top.tk (L : List (Str × Str × Bool)) (hL : ∀ e ∈ L, ∃ i j k : Nat, fa[i]? = some (.exm e.1 e.2.1 e.2.2) ∧ fa[j]? = some (.glo e.1) ∧ fa[k]? = some (.glo e.2.1)) : TkF p (tkOf L) := by
  refine ⟨fun x c b h C hC => ?_⟩
  unfold tkOf at h
  cases hf : L.find? fun e => decide (e.1 = x) && decide (e.2.1 = c) with
  | none => rw [hf] at h; cases h
  | some e =>
    rw [hf] at h
    cases h
    have h1 := List.find?_some hf
    rw [Bool.and_eq_true, decide_eq_true_eq, decide_eq_true_eq] at h1
    obtain ⟨rfl, rfl⟩ := h1
    obtain ⟨i, j, k, hi, hj, hk⟩ := hL e (List.mem_of_find?_eq_some hf)
    obtain ⟨h, X, G⟩ := T.K
    have g1 := He.glo_ok X G (T.c.fact j hj)
    have g2 := He.glo_ok X G (T.c.fact k hk)
    rw [hC] at g1; cases g1
    exact ⟨_, g2, He.exm_ok (T.c.fact i hi)⟩
end
section
variable {p : Pc} {N : List Str} {k : Nat} {sc : Sco} {a b c e o i : Expr} {es : List Expr} {st : Stmt} {ss tt : List Stmt} {f g h fo fi : Sem} {fs gs : SemS} {fa : SemA} {pos pp apos : Pos}
/-- a suite: l.append('..') -/
theorem ju_append (i : Nat) {x m : Str} {j : Nat} {p1 p2 p3 p4 : Pos} (hN : N[i]? = some x := by rfl) (hv : (sc.names.lookup x = some .local ∨ sc.names.lookup x = some .cell ∨ sc.names.lookup x = some .free) := by first | exact Or.inl rfl | exact Or.inr (Or.inl rfl) | exact Or.inr (Or.inr rfl))
    (hd : (x == ("__debug__" : Str)) = false := by decide) (hcd : (x == ("__classdict__" : Str)) = false := by decide)
    (mc : Mc (.Name x p1) "append" p2 (.Constant (.str m) j p3) p4 := by exact ⟨fun _ => rfl, fun _ => rfl, rfl, fun _ => rfl, fun _ => rfl⟩)
    (hsw : ∀ env, swapsWith (.Call (.Attribute (.Name x p1) "append" p2) [.Constant (.str m) j p3] [] p4) none pos.line env = pure false := by intro _; rfl) :
    JU p N sc [.Expr (.Call (.Attribute (.Name x p1) "append" p2) [.Constant (.str m) j p3] [] p4) pos] (sExpr (semApp (semVar i) (semC (.str m)))) := fun W X c => by
  have pv : PE X (.Name x p1) _ := pe_var (X := X) (i := i) (by rw [c.hN]; exact hN) (by rw [c.hsc]; exact hv) hd hcd
  have pa : PA X [.Constant (.str m) j p3] _ := pa_cons pe_str pa_nil (mc.st _)
  have pe := pe_bm F.plainAttrs_list F.slot_list_append F.type_list_append mt_append pv pa (mc.base _) (mc.few _) mc.line (mc.st _) (mc.pl _)
  refine PSs.imp (pss_one (ps_expr pe (hsw _))) fun Dn σ H ⟨F, α, S, ρ, s, e, q⟩ => ?_
  have q : SatS p W F α (match ((semVar i ρ S).bind fun o S1 => match lstOf S1 o with
    | none => .no
    | some _ => opApp o (.str m) S1) with | .ok _ S1 => .nx ρ S1 | .ex x S1 => .ex x ρ S1 | .no => .no) Dn := q
  unfold semVar at q
  cases hr : ρ[i]? with
  | none => rw [hr] at q; exact q.elim
  | some od =>
    cases od with
    | none => rw [hr] at q; exact q.elim
    | some d =>
      rw [hr] at q
      obtain ⟨v, h1, h2⟩ := e.at_ i d hr
      have q : SatS p W F α (match (match lstOf S d with
        | none => .no
        | some _ => opApp d (.str m) S : R D) with | .ok _ S1 => .nx ρ S1 | .ex x S1 => .ex x ρ S1 | .no => .no) Dn := q
      refine ⟨v, h1, ?_⟩
      cases hl : lstOf S d with
      | none => rw [hl] at q; exact q.elim
      | some ys =>
        rw [hl] at q
        refine ⟨lstOf_ty c.K s h2 hl, ?_⟩
        dsimp only at q
        cases d with
        | own j =>
          cases h2 with
          | own h2 =>
            cases hS : S[j]? with
            | none => simp only [opApp, hS] at q; exact q.elim
            | some o =>
              cases o with
              | lst xs =>
                simp only [opApp, hS] at q
                by_cases hz : xs.length < sizeLine
                · rw [if_pos hz] at q
                  obtain ⟨a, u, h3, h4, h5⟩ := s.own _ _ hS
                  rw [h2] at h3; cases h3
                  cases u with
                  | lst ws =>
                    have h5 : Rps p F α ws xs := h5
                    refine ⟨_, ws, .str m, rfl, rfl, h4, by rw [h5.length]; exact hz, ?_⟩
                    exact q σ _ F α (Ext.refl F α) (s.set h2 (s.loose h2 h4 fun _ _ z => nomatch z) (show OU p F α (.lst _) (.lst _) from h5.append (.cons (.str m) .nil))) e
                  | _ => exact (show False from h5).elim
                · rw [if_neg hz] at q; exact q.elim
              | _ => simp only [opApp, hS] at q; exact q.elim
        | _ => simp only [opApp] at q; exact q.elim
/-- what stands still while it is walked -/
def walkOf (S : Sto) : D → Option (List D)
  | .lst xs => some xs
  | .tup xs => some xs
  | .str z => some (z.cps.toList.map fun c => .str ⟨#[c]⟩)
  | .own k => (match S[k]? with
    | some (.frz (.lst xs)) => some xs
    | _ => none)
  | _ => none
def enumL : Nat → List D → List D
  | _, [] => []
  | n, d :: ds => .tup [.int n, d] :: enumL (n + 1) ds
def bEnum : List D → Sto → R (List D)
  | [d], S => (match walkOf S d with
    | some xs => .ok (enumL 0 xs) S
    | none => .no)
  | _, _ => .no
def zipL : List D → List D → List D
  | a :: as, b :: bs => .tup [a, b] :: zipL as bs
  | _, _ => []
def bZip : List D → Sto → R (List D)
  | [a, b], S => (match walkOf S a, walkOf S b with
    | some xs, some ys => .ok (zipL xs ys) S
    | _, _ => .no)
  | _, _ => .no
/-- .. as an object of the store -/
def opMulO (a b : D) (S : Sto) : R D := match opMul a b S with
  | .ok (.lst xs) S1 => .ok (.own S1.length) (S1 ++ [.lst xs])
  | _ => .no
def opAddO (a b : D) (S : Sto) : R D := match opAdd a b S with
  | .ok (.lst xs) S1 => .ok (.own S1.length) (S1 ++ [.lst xs])
  | _ => .no
end
end GB
/-! Plain laws about what is computed: rules for simp. -/
namespace GB
open PySem L2
def brB (d : D) (a b : R D) : R D := match d with
  | .bl true => a | .bl false => b | _ => .no
def brS (d : D) (a b : SR) : SR := match d with
  | .bl true => a | .bl false => b | _ => .no
def seqS (r : SR) (g : SemS) : SR := match r with
  | .nx ρ1 S1 => g ρ1 S1
  | .rt d S1 => .rt d S1 | .bk ρ1 S1 => .bk ρ1 S1 | .ct ρ1 S1 => .ct ρ1 S1 | .ex x ρ1 S1 => .ex x ρ1 S1 | .no => .no
def toS (ρ : Env) (r : R D) (k : D → Sto → SR) : SR := match r with
  | .ok d S1 => k d S1 | .ex x S1 => .ex x ρ S1 | .no => .no
def toSA (ρ : Env) (r : R (List D)) (k : List D → Sto → SR) : SR := match r with
  | .ok d S1 => k d S1 | .ex x S1 => .ex x ρ S1 | .no => .no
def finR (r : SR) : R D := match r with
  | .nx _ S1 => .ok .non S1
  | .rt d S1 => .ok d S1
  | .ex x _ S1 => .ex x S1
  | _ => .no
def optS (o : Option Env) (S : Sto) : SR := match o with
  | some ρ => .nx ρ S | none => .no
section
variable {α β : Type} {ρ : Env} {S S1 : Sto} {f g h : Sem} {fa : SemA} {fs gs : SemS} {d e : D}
@[simp] theorem kl : sizeLine = 16777216 := rfl
@[simp] theorem bind_ok (a : α) (S : Sto) (k : α → Sto → R β) : (R.ok a S).bind k = k a S := rfl
@[simp] theorem bind_ex (x : Exn) (S : Sto) (k : α → Sto → R β) : (R.ex x S : R α).bind k = .ex x S := rfl
@[simp] theorem bind_no (k : α → Sto → R β) : (R.no : R α).bind k = .no := rfl
@[simp] theorem bind_ite (p : Prop) [Decidable p] (a b : R α) (k : α → Sto → R β) : (if p then a else b).bind k = if p then a.bind k else b.bind k := by split <;> rfl
@[simp] theorem semC_eq : semC d ρ S = .ok d S := rfl
@[simp] theorem semNil_eq : semNil ρ S = .ok [] S := rfl
@[simp] theorem semVar_eq (i : Nat) : semVar i ρ S = (match ρ[i]? with | some (some d) => .ok d S | _ => .no) := rfl
@[simp] theorem semCons_eq : semCons f fa ρ S = (f ρ S).bind fun x S1 => (fa ρ S1).bind fun xs S2 => .ok (x :: xs) S2 := rfl
@[simp] theorem sem1_eq (op : D → Sto → R D) : sem1 op f ρ S = (f ρ S).bind fun x S1 => op x S1 := rfl
@[simp] theorem sem2_eq (op : D → D → Sto → R D) : sem2 op f g ρ S = (f ρ S).bind fun x S1 => (g ρ S1).bind fun y S2 => op x y S2 := rfl
@[simp] theorem semCall_eq (op : List D → Sto → R D) : semCall op fa ρ S = (fa ρ S).bind op := rfl
@[simp] theorem semArg_eq (op : List D → Sto → R (List D)) : semArg op fa ρ S = (fa ρ S).bind op := rfl
@[simp] theorem semItems_eq : semItems f ρ S = (f ρ S).bind bItems := rfl
@[simp] theorem semTup_eq : semTup fa ρ S = (fa ρ S).bind fun ds S1 => if ds.length ≤ sizeLine then .ok (.tup ds) S1 else .no := rfl
@[simp] theorem semLst_eq : semLst fa ρ S = (fa ρ S).bind fun ds S1 => if ds.length ≤ sizeLine then .ok (.lst ds) S1 else .no := rfl
@[simp] theorem semLstO_eq : semLstO fa ρ S = (fa ρ S).bind fun ds S1 => if ds.length ≤ sizeLine then .ok (.own S1.length) (S1 ++ [.lst ds]) else .no := rfl
@[simp] theorem brB_bl (x : Bool) (a b : R D) : brB (.bl x) a b = if x then a else b := by cases x <;> rfl
@[simp] theorem brS_bl (x : Bool) (a b : SR) : brS (.bl x) a b = if x then a else b := by cases x <;> rfl
@[simp] theorem semAnd_eq : semAnd f g ρ S = (f ρ S).bind fun x S1 => brB x (g ρ S1) (.ok (.bl false) S1) := by
  unfold semAnd brB; rfl
@[simp] theorem semOr_eq : semOr f g ρ S = (f ρ S).bind fun x S1 => brB x (.ok (.bl true) S1) (g ρ S1) := by
  unfold semOr brB; rfl
@[simp] theorem semIte_eq : semIte h f g ρ S = (h ρ S).bind fun x S1 => brB x (f ρ S1) (g ρ S1) := by
  unfold semIte brB; rfl
@[simp] theorem semLeLe_eq : semLeLe f g h ρ S = (f ρ S).bind fun x S1 => (g ρ S1).bind fun y S2 => match x, y with
  | .int i, .int j => if i ≤ j then (h ρ S2).bind fun z S3 => opLe y z S3 else .ok (.bl false) S2
  | _, _ => .no := rfl
@[simp] theorem semLc_eq (fin : List D → Sto → R D) (fi : SemA) (vs : List Nat) (g : SemG) (ft fe : Sem) : semLc fin fi vs g ft fe ρ S = (fi ρ S).bind fun ds S1 => if ds.length ≤ sizeLine then (cLoop g ft fe (wipeE ρ vs) ds S1).bind fin else .no := rfl
@[simp] theorem finD_eq (xs : List D) : finD xs S = .ok (.lst xs) S := rfl
@[simp] theorem ite_bl (p : Prop) [Decidable p] (b : Bool) (S : Sto) : (if p then R.ok (D.bl b) S else R.ok (D.bl false) S) = R.ok (D.bl (decide p && b)) S := by
  by_cases h : p <;> simp [h]
@[simp] theorem ite_bl2 (p : Prop) [Decidable p] (b : Bool) (S : Sto) : (if p then R.ok (D.bl true) S else R.ok (D.bl b) S) = R.ok (D.bl (decide p || b)) S := by
  by_cases h : p <;> simp [h]
@[simp] theorem opNot_bl (b : Bool) : opNot (.bl b) S = .ok (.bl !b) S := rfl
@[simp] theorem opLt_int (a b : Int) : opLt (.int a) (.int b) S = .ok (.bl (decide (a < b))) S := rfl
@[simp] theorem opLe_int (a b : Int) : opLe (.int a) (.int b) S = .ok (.bl (decide (a ≤ b))) S := rfl
@[simp] theorem opGt_int (a b : Int) : opGt (.int a) (.int b) S = .ok (.bl (decide (b < a))) S := rfl
@[simp] theorem opGe_int (a b : Int) : opGe (.int a) (.int b) S = .ok (.bl (decide (b ≤ a))) S := rfl
@[simp] theorem opAdd_int (a b : Int) : opAdd (.int a) (.int b) S = .ok (.int (a + b)) S := rfl
@[simp] theorem opSub_int (a b : Int) : opSub (.int a) (.int b) S = .ok (.int (a - b)) S := rfl
@[simp] theorem opMul_int (a b : Int) : opMul (.int a) (.int b) S = if (-(2 ^ 64) < a ∧ a < 2 ^ 64) ∨ (-(2 ^ 64) < b ∧ b < 2 ^ 64) then .ok (.int (a * b)) S else .no := rfl
@[simp] theorem opNeg_int (a : Int) : opNeg (.int a) S = .ok (.int (-a)) S := rfl
@[simp] theorem bInt_int (a : Int) : bInt [.int a] S = .ok (.int a) S := rfl
@[simp] theorem opEq_int (a b : Int) : opEq (.int a) (.int b) S = .ok (.bl (decide (a = b))) S := rfl
@[simp] theorem opNe_int (a b : Int) : opNe (.int a) (.int b) S = .ok (.bl !(decide (a = b))) S := rfl
@[simp] theorem opEq_str (a b : Str) : opEq (.str a) (.str b) S = .ok (.bl (decide (a = b))) S := rfl
@[simp] theorem opNe_str (a b : Str) : opNe (.str a) (.str b) S = .ok (.bl !(decide (a = b))) S := rfl
@[simp] theorem opEq_bl (a b : Bool) : opEq (.bl a) (.bl b) S = .ok (.bl (decide (a = b))) S := rfl
@[simp] theorem opNe_bl (a b : Bool) : opNe (.bl a) (.bl b) S = .ok (.bl !(decide (a = b))) S := rfl
@[simp] theorem toS_ok (a : D) (k : D → Sto → SR) : toS ρ (.ok a S) k = k a S := rfl
@[simp] theorem toS_ex (x : Exn) (k : D → Sto → SR) : toS ρ (.ex x S) k = .ex x ρ S := rfl
@[simp] theorem toS_no (k : D → Sto → SR) : toS ρ .no k = .no := rfl
@[simp] theorem toS_ite (p : Prop) [Decidable p] (a b : R D) (k : D → Sto → SR) : toS ρ (if p then a else b) k = if p then toS ρ a k else toS ρ b k := by split <;> rfl
@[simp] theorem toSA_ok (a : List D) (k : List D → Sto → SR) : toSA ρ (.ok a S) k = k a S := rfl
@[simp] theorem toSA_ex (x : Exn) (k : List D → Sto → SR) : toSA ρ (.ex x S) k = .ex x ρ S := rfl
@[simp] theorem toSA_no (k : List D → Sto → SR) : toSA ρ .no k = .no := rfl
@[simp] theorem seqS_nx (g : SemS) : seqS (.nx ρ S) g = g ρ S := rfl
@[simp] theorem seqS_rt (g : SemS) : seqS (.rt d S) g = .rt d S := rfl
@[simp] theorem seqS_ct (g : SemS) : seqS (.ct ρ S) g = .ct ρ S := rfl
@[simp] theorem seqS_bk (g : SemS) : seqS (.bk ρ S) g = .bk ρ S := rfl
@[simp] theorem seqS_ex (x : Exn) (g : SemS) : seqS (.ex x ρ S) g = .ex x ρ S := rfl
@[simp] theorem seqS_no (g : SemS) : seqS .no g = .no := rfl
@[simp] theorem seqS_ite (p : Prop) [Decidable p] (a b : SR) (g : SemS) : seqS (if p then a else b) g = if p then seqS a g else seqS b g := by split <;> rfl
@[simp] theorem sNil_eq : sNil ρ S = .nx ρ S := rfl
@[simp] theorem sSeq_eq : sSeq fs gs ρ S = seqS (fs ρ S) gs := rfl
@[simp] theorem sExpr_eq : sExpr f ρ S = toS ρ (f ρ S) fun _ S1 => .nx ρ S1 := rfl
@[simp] theorem sRet_eq : sRet f ρ S = toS ρ (f ρ S) fun d S1 => .rt d S1 := rfl
@[simp] theorem sRaise_eq (c : Str) : sRaise c ρ S = .ex ⟨c, []⟩ ρ S := rfl
@[simp] theorem sIf_eq : sIf h fs gs ρ S = toS ρ (h ρ S) fun d S1 => brS d (fs ρ S1) (gs ρ S1) := by
  unfold sIf toS brS
  cases h ρ S with
  | ok d S1 => cases d with
    | bl b => cases b <;> rfl
    | _ => rfl
  | _ => rfl
@[simp] theorem optS_some : optS (some ρ) S = .nx ρ S := rfl
@[simp] theorem sAsg_eq (gg : SemG) : sAsg f gg ρ S = toS ρ (f ρ S) fun d S1 => optS (gg d ρ S1) S1 := by
  unfold sAsg toS optS; rfl
@[simp] theorem gNm_eq (i : Nat) : gNm i d ρ S = some (ρ.set i (some d)) := rfl
@[simp] theorem gTp_eq (is : List Nat) (ds : List D) : gTp is (.tup ds) ρ S = setAll is ds ρ := rfl
@[simp] theorem setAll_nil : setAll [] [] ρ = some ρ := rfl
@[simp] theorem setAll_cons (i : Nat) (is : List Nat) (ds : List D) : setAll (i :: is) (d :: ds) ρ = setAll is ds (ρ.set i (some d)) := rfl
@[simp] theorem sPar_eq (is : List Nat) : sPar is fa ρ S = toSA ρ (fa ρ S) fun ds S1 => optS (setAll is ds ρ) S1 := by
  unfold sPar toSA optS; rfl
@[simp] theorem sSub_eq (fo fi : Sem) : sSub f fo fi ρ S = toS ρ (f ρ S) fun v S1 => toS ρ (fo ρ S1) fun o S2 => toS ρ (fi ρ S2) fun i S3 => match opSet o i v S3 with | some S4 => .nx ρ S4 | none => .no := by
  unfold sSub toS; rfl
@[simp] theorem finR_nx : finR (.nx ρ S) = .ok .non S := rfl
@[simp] theorem finR_rt : finR (.rt d S) = .ok d S := rfl
@[simp] theorem finR_ex (x : Exn) : finR (.ex x ρ S) = .ex x S := rfl
@[simp] theorem finR_ite (p : Prop) [Decidable p] (a b : SR) : finR (if p then a else b) = if p then finR a else finR b := by split <;> rfl
@[simp] theorem bIsi_non (t : BT) : bIsi [.non, .ty t] S = .ok (.bl (subTy .none t)) S := rfl
@[simp] theorem bIsi_bl (b : Bool) (t : BT) : bIsi [.bl b, .ty t] S = .ok (.bl (subTy .bool t)) S := rfl
@[simp] theorem bIsi_int (b : Int) (t : BT) : bIsi [.int b, .ty t] S = .ok (.bl (subTy .int t)) S := rfl
@[simp] theorem bIsi_str (b : Str) (t : BT) : bIsi [.str b, .ty t] S = .ok (.bl (subTy .str t)) S := rfl
@[simp] theorem bIsi_tup (b : List D) (t : BT) : bIsi [.tup b, .ty t] S = .ok (.bl (subTy .tuple t)) S := rfl
@[simp] theorem bIsi_lst (b : List D) (t : BT) : bIsi [.lst b, .ty t] S = .ok (.bl (subTy .list t)) S := rfl
@[simp] theorem subTy_none_none : subTy .none .none = true := rfl
@[simp] theorem subTy_none_bool : subTy .none .bool = false := rfl
@[simp] theorem subTy_none_int : subTy .none .int = false := rfl
@[simp] theorem subTy_none_str : subTy .none .str = false := rfl
@[simp] theorem subTy_none_tuple : subTy .none .tuple = false := rfl
@[simp] theorem subTy_none_list : subTy .none .list = false := rfl
@[simp] theorem subTy_none_dict : subTy .none .dict = false := rfl
@[simp] theorem subTy_bool_none : subTy .bool .none = false := rfl
@[simp] theorem subTy_bool_bool : subTy .bool .bool = true := rfl
@[simp] theorem subTy_bool_int : subTy .bool .int = true := rfl
@[simp] theorem subTy_bool_str : subTy .bool .str = false := rfl
@[simp] theorem subTy_bool_tuple : subTy .bool .tuple = false := rfl
@[simp] theorem subTy_bool_list : subTy .bool .list = false := rfl
@[simp] theorem subTy_bool_dict : subTy .bool .dict = false := rfl
@[simp] theorem subTy_int_none : subTy .int .none = false := rfl
@[simp] theorem subTy_int_bool : subTy .int .bool = false := rfl
@[simp] theorem subTy_int_int : subTy .int .int = true := rfl
@[simp] theorem subTy_int_str : subTy .int .str = false := rfl
@[simp] theorem subTy_int_tuple : subTy .int .tuple = false := rfl
@[simp] theorem subTy_int_list : subTy .int .list = false := rfl
@[simp] theorem subTy_int_dict : subTy .int .dict = false := rfl
@[simp] theorem subTy_str_none : subTy .str .none = false := rfl
@[simp] theorem subTy_str_bool : subTy .str .bool = false := rfl
@[simp] theorem subTy_str_int : subTy .str .int = false := rfl
@[simp] theorem subTy_str_str : subTy .str .str = true := rfl
@[simp] theorem subTy_str_tuple : subTy .str .tuple = false := rfl
@[simp] theorem subTy_str_list : subTy .str .list = false := rfl
@[simp] theorem subTy_str_dict : subTy .str .dict = false := rfl
@[simp] theorem subTy_tuple_none : subTy .tuple .none = false := rfl
@[simp] theorem subTy_tuple_bool : subTy .tuple .bool = false := rfl
@[simp] theorem subTy_tuple_int : subTy .tuple .int = false := rfl
@[simp] theorem subTy_tuple_str : subTy .tuple .str = false := rfl
@[simp] theorem subTy_tuple_tuple : subTy .tuple .tuple = true := rfl
@[simp] theorem subTy_tuple_list : subTy .tuple .list = false := rfl
@[simp] theorem subTy_tuple_dict : subTy .tuple .dict = false := rfl
@[simp] theorem subTy_list_none : subTy .list .none = false := rfl
@[simp] theorem subTy_list_bool : subTy .list .bool = false := rfl
@[simp] theorem subTy_list_int : subTy .list .int = false := rfl
@[simp] theorem subTy_list_str : subTy .list .str = false := rfl
@[simp] theorem subTy_list_tuple : subTy .list .tuple = false := rfl
@[simp] theorem subTy_list_list : subTy .list .list = true := rfl
@[simp] theorem subTy_list_dict : subTy .list .dict = false := rfl
@[simp] theorem subTy_dict_none : subTy .dict .none = false := rfl
@[simp] theorem subTy_dict_bool : subTy .dict .bool = false := rfl
@[simp] theorem subTy_dict_int : subTy .dict .int = false := rfl
@[simp] theorem subTy_dict_str : subTy .dict .str = false := rfl
@[simp] theorem subTy_dict_tuple : subTy .dict .tuple = false := rfl
@[simp] theorem subTy_dict_list : subTy .dict .list = false := rfl
@[simp] theorem subTy_dict_dict : subTy .dict .dict = true := rfl
@[simp] theorem bLen_tup (xs : List D) : bLen [.tup xs] S = .ok (.int xs.length) S := rfl
@[simp] theorem bLen_lst (xs : List D) : bLen [.lst xs] S = .ok (.int xs.length) S := rfl
@[simp] theorem bLen_str (z : Str) : bLen [.str z] S = if z.length ≤ sizeLine then .ok (.int z.length) S else .no := rfl
@[simp] theorem opIx_tup (xs : List D) (i : Int) : opIx (.tup xs) (.int i) S = (match atI xs i with | some x => .ok x S | none => .no) := rfl
@[simp] theorem opIx_lst (xs : List D) (i : Int) : opIx (.lst xs) (.int i) S = (match atI xs i with | some x => .ok x S | none => .no) := rfl
@[simp] theorem bItems_tup (xs : List D) : bItems (.tup xs) S = .ok xs S := rfl
@[simp] theorem bItems_lst (xs : List D) : bItems (.lst xs) S = .ok xs S := rfl
theorem semFn_eq (n : Nat) (ds : List D) : semFn n fs ds S = finR (fs (startE n ds) S) := rfl
end
end GB
/-! zip over lists and tuples in any mix; enumerate; dict of pairs; calls of local names that hold defs. -/
namespace GB
open PySem L2 PyProof.Rows
def itB : Bool → Heap → Addr → Addr → Nat → Prop
  | true, h, it, a, i => h.IsListIter it a i
  | false, h, it, a, i => h.IsTupleIter it a i
def isB : Bool → Heap → Addr → Array Value → Prop
  | true, h, a, xs => h.IsList a xs
  | false, h, a, xs => h.IsTuple a xs
def sqB (K : PySem.W.Frag) : Bool → Hp → Addr → List V → Prop
  | true, H, a, xs => SqL K H a xs
  | false, H, a, xs => SqT K H a xs
theorem itB_at {b : Bool} {h h' : Heap} {it a : Addr} {i : Nat} (q : itB b h it a i) (k : ∀ o, h.get? it = some o → h'.get? it = some o) : itB b h' it a i := by
  cases b with
  | true => exact Heap.IsListIter.at q k
  | false => exact Heap.IsTupleIter.at q k
theorem itB_ex {b : Bool} {h : Heap} {it a : Addr} {i : Nat} (q : itB b h it a i) : ∃ o, h.get? it = some o ∧ ∀ v, o.data ≠ .cell v := by
  cases b with
  | true => obtain ⟨o, e, _, d⟩ := q; exact ⟨o, e, fun v z => by rw [d] at z; cases z⟩
  | false => obtain ⟨o, e, _, d⟩ := q; exact ⟨o, e, fun v z => by rw [d] at z; cases z⟩
theorem isB_at {b : Bool} {h h' : Heap} {a : Addr} {xs : Array Value} (q : isB b h a xs) (k : ∀ o, h.get? a = some o → h'.get? a = some o) : isB b h' a xs := by
  cases b with
  | true => exact Heap.IsList.at q k
  | false => exact Heap.IsTuple.at q k
theorem isB_lt {b : Bool} {h : Heap} {a : Addr} {xs : Array Value} (q : isB b h a xs) : a < h.objs.size := by
  cases b with
  | true => obtain ⟨o, e, _⟩ := q; exact Heap.lt_size e
  | false => obtain ⟨o, e, _⟩ := q; exact Heap.lt_size e
theorem inv_sqB {X : Cx} {pins : List (Addr × Obj)} {σ : L2.St} {H : Hp} {s : Shared} (I : Inv X pins σ H s) {b : Bool} {a : Addr} {xs : List V} (h : sqB X.K b H a xs) : ∃ its : List Value, Vals xs its ∧ isB b s.heap a its.toArray := by
  cases b with
  | true => obtain ⟨its, r, p, _⟩ := I.list h; exact ⟨its, r, p.isList⟩
  | false => obtain ⟨its, r, p, _⟩ := I.tuple h; exact ⟨its, r, p⟩
theorem inv_sqB_inj {X : Cx} {pins : List (Addr × Obj)} {σ : L2.St} {H : Hp} {s : Shared} (I : Inv X pins σ H s) {b : Bool} {a : Addr} {xs ys : List V} (h : sqB X.K b H a xs) (g : sqB X.K b H a ys) : xs = ys := by
  cases b with
  | true => exact I.list_inj h g
  | false => exact I.tuple_inj h g
theorem draws_B {prog : Program} {w : World} {A : Around} (hh : A.handled = none) (b : Bool) (it l : Addr) (hne : l ≠ it) (items : Array Value) :
    Draws prog w A it [it, l] items.size (fun i v => items[i]? = some v) (fun i h => itB b h it l i ∧ isB b h l items) := by
  cases b with
  | true => exact Draws.list hh it l hne items
  | false => exact Draws.tuple hh it l hne items
def objB : Bool → Addr → Obj
  | true, l => { cls := .type "list_iterator", data := .fields #[.ref l, .int 0 0] }
  | false, l => { cls := .type "tuple_iterator", data := .fields #[.ref l, .int 0 0] }
theorem begins_B (b : Bool) (l : Addr) (items : Array Value) : Begins (.ref l) (objB b l) fun h => isB b h l items := by
  cases b with
  | true => exact begins_list l items
  | false => exact begins_tuple l items
theorem itB_new {b : Bool} {h : Heap} {it a : Addr} (e : h.get? it = some (objB b a)) : itB b h it a 0 := by
  cases b with
  | true => exact ⟨_, e, rfl, rfl⟩
  | false => exact ⟨_, e, rfl, rfl⟩
/-- lists and tuples at a and b as they stand at each turn, the items in new pairs; n turns -/
def Izm (K : PySem.W.Frag) (ka kb : Bool) (a b : Addr) (n : Nat) : It :=
  ⟨fun i H => ∃ (xs ys : List V) (x y : V), sqB K ka H a xs ∧ sqB K kb H b ys ∧ xs[i]? = some x ∧ ys[i]? = some y ∧ i < n,
    fun i H v H' => ∃ T x y, v = .ref T ∧ H T = none ∧ H' = upd H T (.tup [x, y]) ∧ (∀ xs, sqB K ka H a xs → xs[i]? = some x) ∧ ∀ ys, sqB K kb H b ys → ys[i]? = some y,
    fun i H => ∃ xs ys : List V, sqB K ka H a xs ∧ sqB K kb H b ys ∧ min xs.length ys.length = n ∧ n ≤ i⟩
theorem turn_zipM {P : Program} {w : World} {K : PySem.W.Frag} {ka kb : Bool} {elts : List Expr} {kk : Nat} {tpos : Pos} {a b z TI TO i1 i2 : Addr} {n : Nat} (D : ZipApart z TI TO i1 i2 a b) (S : ZipSep2 z TI TO i1 i2 [i1, a] [i2, b]) :
    Turn P w K (.Tuple elts kk tpos) (Izm K ka kb a b n) [z, TI, TO, i1, i2] z (fun i h => IsZip h z TI TO .none ∧ IsTupOf2 h TI (.ref i1) (.ref i2) ∧ (∃ x y, IsTupOf2 h TO x y) ∧ itB ka h i1 a i ∧ itB kb h i2 b i ∧ i ≤ n) where
  mem := by simp
  obj := fun i h st c hc => by
    obtain ⟨hz, hTI, ⟨x, y, hTO⟩, h1, h2, _⟩ := st
    have e' : c = z ∨ c = TI ∨ c = TO ∨ c = i1 ∨ c = i2 := by simpa using hc
    rcases e' with q | q | q | q | q
    · rw [q]; exact ⟨_, hz, fun v q => nomatch q⟩
    · rw [q]; exact ⟨_, hTI, fun v q => nomatch q⟩
    · rw [q]; exact ⟨_, hTO, fun v q => nomatch q⟩
    · rw [q]; exact itB_ex h1
    · rw [q]; exact itB_ex h2
  keep := fun i h h' st k => by
    obtain ⟨hz, hTI, ⟨x, y, hTO⟩, h1, h2, hn⟩ := st
    exact ⟨k z (by simp) _ hz, k TI (by simp) _ hTI, ⟨x, y, k TO (by simp) _ hTO⟩, itB_at h1 fun o q => k i1 (by simp) o q, itB_at h2 fun o q => k i2 (by simp) o q, hn⟩
  item := by
    intro X hP hw hK hc i pins s σ H E I hf st hg
    subst hP hw hK
    obtain ⟨hz, hTI, ⟨x0, y0, hTO⟩, h1, h2, hn⟩ := st
    obtain ⟨xs, ys, x, y, hqx, hqy, hx, hy, hin⟩ := hg
    obtain ⟨its, rv, p⟩ := inv_sqB I hqx
    obtain ⟨its2, rv2, p2⟩ := inv_sqB I hqy
    obtain ⟨u, hu, ru⟩ := rv.get hx
    obtain ⟨u2, hu2, ru2⟩ := rv2.get hy
    have hzl : z < s.heap.objs.size := Heap.lt_size hz
    have hd : X.A.in1.handled = none := I.ok.hd hc
    have l1 : i < its.toArray.size := by
      have := (List.getElem?_eq_some_iff.mp hu).1
      simpa using this
    have l2 : i < its2.toArray.size := by
      have := (List.getElem?_eq_some_iff.mp hu2).1
      simpa using this
    refine wpAny_pyNext_zipD2_item S (draws_B hd ka i1 a D.l1i1 its.toArray) (draws_B hd kb i2 b D.l2i2 its2.toArray) hz hTI hTO ⟨h1, p⟩ ⟨h2, p2⟩ l1 l2 fun v1 v2 h' tk e1 e2 z' TO' s1' s2' hT hsz hk => ?_
    have e1 : v1 = u := by
      have : its[i]? = some v1 := by simpa using e1
      rw [hu] at this; exact (Option.some.inj this).symm
    have e2 : v2 = u2 := by
      have : its2[i]? = some v2 := by simpa using e2
      rw [hu2] at this; exact (Option.some.inj this).symm
    subst e1 e2
    refine ⟨_, rfl, wpAny_letOwnedTupleGo_zip (s := { s with heap := h', toks := tk }) z' fun h'' z'' sb => ?_⟩
    have hT2 : h''.get? s.heap.objs.size = some { cls := .type "tuple", data := .seq #[v1, v2] } := (sb.2 _ (Nat.ne_of_gt hzl)).trans hT
    have new : ObjOk X.prog X.w (upd H s.heap.objs.size (.tup [x, y])) h'' s.heap.objs.size (.tup [x, y]) :=
      ⟨by show 2 ≤ sizeLine; decide, [v1, v2], .cons ru (.cons ru2 .nil), ⟨_, hT2, rfl, _, rfl⟩⟩
    have I1 : Inv X pins σ (upd H s.heap.objs.size (.tup [x, y])) { s with heap := h'', toks := tk } :=
      I.turnedNew (t' := tk) (ch := [z, TI, TO, i1, i2]) (fun c o hb q => (sb.2 c (fun q' => hb (by simp [q']))).trans (hk c o (fun q' => hb (by simp [q'])) (fun q' => hb (by simp [q'])) (fun q' => hb (by simp [q'])) (fun q' => hb (by simp [q'])) q)) hf (Nat.le_refl _) new
    refine ⟨.ref s.heap.objs.size, _, I1, rfl, ⟨_, x, y, rfl, I.hok.fresh (Nat.le_refl _), rfl, fun l hl => by rw [inv_sqB_inj I hl hqx]; exact hx, fun l hl => by rw [inv_sqB_inj I hl hqy]; exact hy⟩, ⟨z'', ?_, ⟨v1, v2, ?_⟩, ?_, ?_, hin⟩, fun c hcm => ?_⟩
    · exact (sb.2 _ D.TIz).trans (hk _ _ D.TIz D.TITO D.TIi1 D.TIi2 hTI)
    · exact (sb.2 _ D.TOz).trans TO'
    · exact itB_at s1'.1 fun o q => (sb.2 _ D.i1z).trans q
    · exact itB_at s2'.1 fun o q => (sb.2 _ D.i2z).trans q
    · have hlt : c < s.heap.objs.size := by
        have e' : c = z ∨ c = TI ∨ c = TO ∨ c = i1 ∨ c = i2 := by simpa using hcm
        rcases e' with q | q | q | q | q
        · rw [q]; exact hzl
        · rw [q]; exact Heap.lt_size hTI
        · rw [q]; exact Heap.lt_size hTO
        · rw [q]; obtain ⟨_, e1, _⟩ := itB_ex h1; exact Heap.lt_size e1
        · rw [q]; obtain ⟨_, e1, _⟩ := itB_ex h2; exact Heap.lt_size e1
      rw [upd_ne (Nat.ne_of_lt hlt)]
      exact (hf c hcm).1
  done := by
    intro X hP hw hK hc i pins s σ H E I hf st hg
    subst hP hw hK
    obtain ⟨hz, hTI, ⟨x0, y0, hTO⟩, h1, h2, hn⟩ := st
    obtain ⟨xs, ys, hqx, hqy, hend, hle⟩ := hg
    obtain ⟨its, rv, p⟩ := inv_sqB I hqx
    obtain ⟨its2, rv2, p2⟩ := inv_sqB I hqy
    have l1 := rv.length
    have l2 := rv2.length
    have hd : X.A.in1.handled = none := I.ok.hd hc
    refine wpAny_pyNext_zipD2_end S (draws_B hd ka i1 a D.l1i1 its.toArray) (draws_B hd kb i2 b D.l2i2 its2.toArray) hz hTI hTO ⟨h1, p⟩ ⟨h2, p2⟩ (by simp; omega) (by simp; omega) (by simp; omega) fun h' tk hk => ⟨rfl, I.turnedL (t' := tk) (ch := [z, TI, TO, i1, i2]) (fun c o hb q =>
      hk c o (fun q' => hb (by simp [q'])) (fun q' => hb (by simp [q'])) (fun q' => hb (by simp [q'])) (fun q' => hb (by simp [q'])) q) hf⟩
  self := fun A i s Q E st h => wpAny_pyIter_zip st.1 h
theorem sep_of (I l1 l2 : Nat) (h1 : l1 < I) (h2 : l2 < I) : ZipSep2 (I + 4) (I + 2) (I + 3) I (I + 1) [I, l1] [I + 1, l2] := by
  constructor <;> simp only [List.mem_cons, List.not_mem_nil, or_false, not_or, ne_eq] <;> first
    | exact Or.inl trivial
    | exact Or.inl rfl
    | (refine ⟨?_, ?_⟩ <;> (intro (z : (_ : Nat) = _); omega))
    | (intro (z : (_ : Nat) = _); omega)
def iZipM (K : PySem.W.Frag) (ta : TA) : TI := fun σ H R => ta σ H fun vs H1 => ∃ ka kb a b xs ys, vs = [.ref a, .ref b] ∧ sqB K ka H1 a xs ∧ sqB K kb H1 b ys ∧ R (Izm K ka kb a b (min xs.length ys.length)) H1
theorem pi_zipM {X : Cx} {e e2 : Expr} {ta : TA} {p pos tpos : Pos} {elts : List Expr} {kk : Nat} (hg : Gl X "zip") (hm : X.mg "zip" = none) (ha : PA X [e, e2] ta)
    (hs : starEach [e, e2] X.env = (false, eval e X.env) :: starEach [e2] X.env := by rfl) (hpl : (backTo pos (starEach [e2] X.env)).any (·.1) = false := by rfl) :
    PI X (.Tuple elts kk tpos) (.Call (.Name "zip" p) [e, e2] [] pos) (iZipM X.K ta) := by
  refine ⟨fun pins s σ H R I h => ?_⟩
  refine Call_ (ld_blt I hg hm PyProof.Rows.boot_zip (PyProof.Rows.callWith_type1 (thn (ha.run pos pins s σ H _ I h) fun us s1 ⟨vs, H1, I1, r1, q1⟩ => ?_) hs hpl))
  obtain ⟨ka, kb, a, b, xs, ys, ex, hqx, hqy, q⟩ := q1
  subst ex
  cases r1 with
  | cons r rr =>
    cases rr with
    | cons r' rr =>
      cases rr
      cases r
      cases r'
      have fresh5 : ∀ c, c ∈ [s1.heap.objs.size + 4, s1.heap.objs.size + 2, s1.heap.objs.size + 3, s1.heap.objs.size, s1.heap.objs.size + 1] → FpOk X pins H1 c := fun c hcm => by
        have e' : c = s1.heap.objs.size + 4 ∨ c = s1.heap.objs.size + 2 ∨ c = s1.heap.objs.size + 3 ∨ c = s1.heap.objs.size ∨ c = s1.heap.objs.size + 1 := by simpa using hcm
        have hle : s1.heap.objs.size ≤ c := by
          rcases e' with z | z | z | z | z <;> rw [z] <;> first | exact Nat.le_refl _ | exact Nat.le_add_right _ _
        exact I1.fpOk hle (I1.hok.fresh hle)
      obtain ⟨its, rv, p1⟩ := inv_sqB I1 hqx
      obtain ⟨its2, rv2, p2⟩ := inv_sqB I1 hqy
      have ha' := isB_lt p1
      have hb' := isB_lt p2
      refine zip_begins2 (begins_B ka a its.toArray) (begins_B kb b its2.toArray) p1 p2 fun h' hz hTI hTO h1 h2 hsz hk => wpAny_pyIter_zip hz ?_
      have I2 : Inv X pins σ H1 { s1 with heap := h' } := I1.kept (t' := s1.toks) hk
      exact ⟨s1.heap.objs.size + 4, [s1.heap.objs.size + 4, s1.heap.objs.size + 2, s1.heap.objs.size + 3, s1.heap.objs.size, s1.heap.objs.size + 1], _, _, H1, rfl, I2, turn_zipM (PySem.W.ktu_apart s1.heap.objs.size a b ha' hb') (sep_of s1.heap.objs.size a b ha' hb'), ⟨hz, hTI, ⟨_, _, hTO⟩, itB_new h1, itB_new h2, Nat.zero_le _⟩, fresh5, q⟩
theorem it_zip {p : Pc} {F : Hp} {α : List Addr} {ka kb : Bool} {a b : Addr} {vs ws : List V} {ds es : List D} (h1 : ∀ F' α' S' H, Ext F α F' α' → StOk p F' α' S' H → sqB p.K ka H a vs) (h2 : ∀ F' α' S' H, Ext F α F' α' → StOk p F' α' S' H → sqB p.K kb H b ws) (r1 : Rps p F α vs ds) (r2 : Rps p F α ws es) :
    ItOk p F α (Izm p.K ka kb a b (min vs.length ws.length)) (zipL ds es) := fun F' α' S' H x s => by
  have hl : ∀ (us ts : List D), (zipL us ts).length = min us.length ts.length := by
    intro us
    induction us with
    | nil => intro ts; simp [zipL]
    | cons u us ih => intro ts; cases ts <;> simp [zipL, ih] <;> omega
  have hg : ∀ (us ts : List D) (i : Nat) (d : D), (zipL us ts)[i]? = some d → ∃ u t, us[i]? = some u ∧ ts[i]? = some t ∧ d = .tup [u, t] := by
    intro us
    induction us with
    | nil => intro ts i d h; simp [zipL] at h
    | cons u us ih =>
      intro ts i d h
      cases ts with
      | nil => simp [zipL] at h
      | cons t ts =>
        cases i with
        | zero => simp [zipL] at h; exact ⟨u, t, rfl, rfl, h.symm⟩
        | succ i =>
          rw [zipL, List.getElem?_cons_succ] at h
          obtain ⟨u', t', e1, e2, e3⟩ := ih ts i d h
          exact ⟨u', t', by simpa using e1, by simpa using e2, e3⟩
  refine ⟨fun i d hd => ?_, fun i hi => ⟨vs, ws, h1 _ _ _ _ x s, h2 _ _ _ _ x s, rfl, by rw [hl] at hi; rw [r1.length, r2.length]; exact hi⟩⟩
  obtain ⟨u, t, e1, e2, rfl⟩ := hg ds es i d hd
  obtain ⟨v, f1, g1⟩ := Rps.get (Rps.ext x _ _ r1) e1
  obtain ⟨w, f2, g2⟩ := Rps.get (Rps.ext x _ _ r2) e2
  have hlt : i < min vs.length ws.length := by
    have z1 := (List.getElem?_eq_some_iff.mp f1).1
    have z2 := (List.getElem?_eq_some_iff.mp f2).1
    omega
  refine ⟨⟨vs, ws, v, w, h1 _ _ _ _ x s, h2 _ _ _ _ x s, f1, f2, hlt⟩, fun y H' hy => ?_⟩
  obtain ⟨T, x', y', rfl, hT, rfl, q1, q2⟩ := hy
  have q1 := q1 vs (h1 _ _ _ _ x s)
  have q2 := q2 ws (h2 _ _ _ _ x s)
  rw [f1] at q1; cases q1
  rw [f2] at q2; cases q2
  obtain ⟨s', x'⟩ := s.laid hT (.tup [v, w])
  exact ⟨_, x', s', .tup upd_same (.cons (Rp.ext x' _ _ g1) (.cons (Rp.ext x' _ _ g2) .nil))⟩
/-- what a walk draws from -/
theorem walk_sq {p : Pc} {F : Hp} {α : List Addr} {S : Sto} {H : Hp} {v : V} {d : D} {xs : List D} (s : StOk p F α S H) (r : Rp p F α v d) (hn : ∀ z, d ≠ .str z) (h : walkOf S d = some xs) :
    ∃ (b : Bool) (a : Addr) (vs : List V) (F1 : Hp), v = .ref a ∧ StOk p F1 α S H ∧ Ext F α F1 α ∧ Rps p F1 α vs xs ∧ sqB p.K b H a vs ∧ ∀ F' α' S' H', Ext F1 α F' α' → StOk p F' α' S' H' → sqB p.K b H' a vs := by
  cases d with
  | lst ys =>
    have e' : ys = xs := Option.some.inj h
    subst e'
    cases r with
    | lst h1 h2 => exact ⟨true, _, _, F, rfl, s, Ext.refl F α, h2, s.sql h1, fun F' α' S' H' x s' => s'.sql (x.w.dql h1)⟩
  | tup ys =>
    have e' : ys = xs := Option.some.inj h
    subst e'
    cases r with
    | tup h1 h2 => exact ⟨false, _, _, F, rfl, s, Ext.refl F α, h2, s.sqt h1, fun F' α' S' H' x s' => s'.sqt (x.w.dqt h1)⟩
  | str z => exact absurd rfl (hn z)
  | own k =>
    cases r with
    | own h1 =>
      unfold walkOf at h
      dsimp only at h
      cases hS : S[k]? with
      | none => rw [hS] at h; cases h
      | some o =>
        rw [hS] at h
        cases o with
        | frz o =>
          cases o with
          | lst ys =>
            have e' : ys = xs := Option.some.inj h
            subst e'
            obtain ⟨a, u, h2, h3, h4⟩ := s.own _ _ hS
            rw [h1] at h2; cases h2
            cases u with
            | frz ob u =>
              cases u with
              | lst ws =>
                obtain ⟨F1, f1, s1, x1⟩ := s.hold h1 h3 fun _ _ z => nomatch z
                have h4 : Rps p F α ws ys := h4
                have key : ∀ F' α' S' H', Ext F1 α F' α' → StOk p F' α' S' H' → sqB p.K true H' _ ws := fun F' α' S' H' x s' => by
                  have := s'.sub _ _ (x.f _ _ f1)
                  rw [ung_frz (show Flat (.lst ws) from fun _ _ z => nomatch z)] at this
                  exact .inl (.inr ⟨ob, this⟩)
                exact ⟨true, _, ws, F1, rfl, s1, x1, Rps.ext x1 _ _ h4, key F1 α S H (Ext.refl _ _) s1, key⟩
              | _ => exact (show False from h4).elim
            | _ => exact (show False from h4).elim
          | _ => cases h
        | _ => cases h
  | _ => cases h
section
variable {p : Pc} {N : List Str} {k : Nat} {sc : Sco} {a b c e : Expr} {es elts : List Expr} {f g h : Sem} {fa : SemA} {pos pp tpos : Pos} {kk : Nat}
/-- zip of texts is not here -/
def bZipS : List D → Sto → R (List D)
  | [a, b], S => (match a, b with
    | .str _, _ => .no
    | _, .str _ => .no
    | a, b => bZip [a, b] S)
  | _, _ => .no
theorem ji_zip (hm : p.mg ("zip" : Str) = none) (ha : JA p N k sc [a, b] fa) (hg : sc.names.lookup ("zip" : Str) = some .globalImplicit := by rfl) (hs : ∀ env, starEach [a, b] env = (false, eval a env) :: starEach [b] env := by intro _; rfl) (hpl : ∀ env, (backTo pos (starEach [b] env)).any (·.1) = false := by intro _; rfl) :
    JI p N k sc (.Tuple elts kk tpos) (.Call (.Name "zip" pp) [a, b] [] pos) (semArg bZipS fa) := fun W X c => by
  refine PI.imp (pi_zipM (by show X.env.scope.names.lookup _ = _; rw [c.hsc]; exact hg) (by rw [c.mg]; exact hm) (ha W X c) (hs _) (hpl _)) fun σ H R h => ?_
  refine LA.imp h.args fun vs H1 ⟨F, α, S, ds, s, r, q⟩ => ?_
  unfold bZipS at q
  split at q
  · rename_i a b
    split at q
    · exact q.elim
    · exact q.elim
    · rename_i n1 n2
      obtain ⟨v, w, rfl, r1, r2⟩ := two_of r
      simp only [bZip] at q
      cases hx : walkOf S a with
      | none => rw [hx] at q; exact q.elim
      | some xs =>
        cases hy : walkOf S b with
        | none => rw [hx, hy] at q; exact q.elim
        | some ys =>
          rw [hx, hy] at q
          obtain ⟨ka, aa, us, F1, rfl, s1, x1, rr1, q1, k1⟩ := walk_sq s r1 n1 hx
          obtain ⟨kb, bb, ws, F2, rfl, s2, x2, rr2, q2, k2⟩ := walk_sq s1 (Rp.ext x1 _ _ r2) n2 hy
          refine ⟨ka, kb, aa, bb, us, ws, rfl, by rw [c.K]; exact q1, by rw [c.K]; exact q2, ?_⟩
          rw [c.K]
          exact q _ H1 F2 α (x1.trans x2) s2 (it_zip (fun F' α' S' H' x s' => k1 F' α' S' H' (x2.trans x) s') k2 (Rps.ext x2 _ _ rr1) rr2)
  · exact q.elim
end
end GB
/-! dict of a list of pairs; defs as values; calls of local names that hold a def. -/
namespace GB
open PySem L2 PyProof.Rows
/-- pairs of a key and a value -/
def pairsD : List D → Option (List (Key × D))
  | [] => some []
  | .tup [a, b] :: r => (match keyD a, pairsD r with
    | some k, some ks => some ((k, b) :: ks)
    | _, _ => none)
  | _ => none
def mergeD (kvs more : List (Key × D)) : List (Key × D) := more.foldl (fun acc kv => putD acc kv.1 kv.2) kvs
/-- dict(list of pairs), as an object of the store -/
def bDictP : List D → Sto → R D
  | [d], S => (match (lstOf S d).bind pairsD with
    | some kvs => .ok (.own S.length) (S ++ [.dK (mergeD [] kvs)])
    | none => .no)
  | _, _ => .no
section
variable {p : Pc} {F : Hp} {α : List Addr}
theorem kvR.merge : ∀ {ms : List (Key × V)} {ns : List (Key × D)} {ks : List (Key × V)} {ls : List (Key × D)}, kvR p F α ms ns → kvR p F α ks ls → kvR p F α (mergeK ks ms) (mergeD ls ns)
  | _, _, _, _, .nil, h => h
  | _, _, _, _, .cons (a := x) (b := y) r t, h => by
    unfold mergeK mergeD
    rw [List.foldl_cons, List.foldl_cons, r.1]
    exact kvR.merge t (kvR.put r.2 h)
theorem pairsD_rel {S : Sto} {H : Hp} (s : StOk p F α S H) : ∀ {ds : List D} {vs : List V} {kvs : List (Key × D)}, Rps p F α vs ds → pairsD ds = some kvs →
    ∃ (ps : List Addr) (kws : List (Key × V)), vs = ps.map V.ref ∧ Paired (fun q kv => SqT p.K H q [kV kv.1, kv.2]) ps kws ∧ kvR p F α kws kvs
  | [], _, kvs, r, h => by cases r; cases h; exact ⟨[], [], rfl, .nil, .nil⟩
  | d :: ds, _, kvs, r, h => by
    cases r with
    | cons r1 r2 =>
      unfold pairsD at h
      split at h
      · rename_i he; cases he
      · rename_i a b r he
        cases he
        cases e1 : keyD a with
        | none => rw [e1] at h; cases h
        | some key =>
          cases e2 : pairsD ds with
          | none => rw [e1, e2] at h; cases h
          | some ks =>
            rw [e1, e2] at h
            cases h
            obtain ⟨ps, kws, rfl, q1, q2⟩ := pairsD_rel s r2 e2
            obtain ⟨q, vs, rfl, hb, rs⟩ := tup_at s r1
            obtain ⟨v, w, rfl, ra, rb⟩ := two_of rs
            have := keyD_rel ra e1
            subst this
            exact ⟨q :: ps, (key, w) :: kws, rfl, .cons (.inl (.inl hb)) q1, .cons ⟨rfl, rb⟩ q2⟩
      · cases h
end
section
variable {p : Pc} {N : List Str} {k : Nat} {sc : Sco} {a b c e : Expr} {es elts : List Expr} {f g h : Sem} {fa : SemA} {pos pp tpos : Pos} {kk : Nat}
theorem je_dictP (hm : p.mg ("dict" : Str) = none) (ha : JA p N k sc (e :: es) fa) (hg : sc.names.lookup ("dict" : Str) = some .globalImplicit := by rfl) (he : ∀ env, starEach (e :: es) env = (false, eval e env) :: starEach es env := by intro _; rfl) (hpl : ∀ env, (backTo pos (starEach es env)).any (·.1) = false := by intro _; rfl) :
    JE p N k sc (.Call (.Name "dict" pp) (e :: es) [] pos) (semCall bDictP fa) := je_callT (T := "dict") (r := fun X xs H Q => ∃ (a : Addr) (ps : List Addr) (kvs : List (Key × V)), xs = [.ref a] ∧ SqL X.K H a (ps.map V.ref) ∧ Paired (fun p kv => SqT X.K H p [kV kv.1, kv.2]) ps kvs ∧
    ∀ p, H p = none → Q (.ref p) (upd H p (.dK (mergeK [] kvs)))) (fun _ X c => call_dictP c.calm) (fun _ X c => by
  intro F α S H vs ds Q E s r q
  unfold bDictP at q
  split at q
  · obtain ⟨v, rfl, r1⟩ := one_of r
    rename_i d
    cases hl : lstOf S d with
    | none => rw [hl] at q; exact q.elim
    | some xs =>
      rw [hl] at q
      simp only [Option.bind_some] at q
      cases hp : pairsD xs with
      | none => rw [hp] at q; exact q.elim
      | some kvs =>
        rw [hp] at q
        obtain ⟨a, ws, rfl, h3, h4⟩ := s.lstOf r1 hl
        obtain ⟨ps, kws, rfl, q1, q2⟩ := pairsD_rel s h4 hp
        refine ⟨a, ps, kws, rfl, by rw [c.K]; exact h3, by rw [c.K]; exact q1, ?_⟩
        exact q.own (u := .dK _) s (show OU p F α (.dK _) (.dK _) from kvR.merge q2 .nil)
  · exact q.elim) hm (by decide +kernel) (by decide) (by decide) ha hg he hpl
/-- a def as a value -/
theorem gl_fn {x : Str} {kf n : Nat} {g : List D → Sto → R D} (G : Fn p x kf n g) : GC p x (.gl x) := by
  obtain ⟨ff, fd, ps, h1, _⟩ := G.ex
  exact ⟨_, .ref ff, h1, rfl, fun F α => .gl h1⟩
abbrev Cand := Str × Nat × (List D → Sto → R D)
def candAt : List Cand → Str → Option (Nat × (List D → Sto → R D))
  | [], _ => none
  | c :: r, x => if c.1 = x then some c.2 else candAt r x
inductive CandOk (p : Pc) (k : Nat) : List Cand → Prop
  | nil : CandOk p k []
  | cons {x : Str} {kf n : Nat} {g : List D → Sto → R D} {r : List Cand} (G : Fn p x kf n g) (h : kf ≤ k) (t : CandOk p k r) : CandOk p k ((x, n, g) :: r)
theorem CandOk.at_ {k : Nat} : ∀ {L : List Cand} {x : Str} {n : Nat} {g : List D → Sto → R D}, CandOk p k L → candAt L x = some (n, g) → ∃ kf, kf ≤ k ∧ Fn p x kf n g
  | [], _, _, _, _, h => by cases h
  | (y, m, f) :: L, x, n, g, t0, h => by
    cases t0 with
    | cons G hk t =>
      unfold candAt at h
      split at h
      · rename_i e
        have e : y = x := e
        subst e
        cases h
        exact ⟨_, hk, G⟩
      · exact CandOk.at_ t h
def semCallL (i : Nat) (L : List Cand) (fa : SemA) : Sem := fun ρ S => match ρ[i]? with
  | some (some (.gl x)) => (match candAt L x with
    | some (n, g) => (fa ρ S).bind fun ds S => if ds.length = n then g ds S else .no
    | none => .no)
  | _ => .no
theorem je_callL (i : Nat) {x : Str} {L : List Cand} (G : CandOk p k L) (ha : JA p N k sc (e :: es) fa) (hN : N[i]? = some x := by rfl) (hv : (sc.names.lookup x = some .local ∨ sc.names.lookup x = some .cell ∨ sc.names.lookup x = some .free) := by first | exact Or.inl rfl | exact Or.inr (Or.inl rfl) | exact Or.inr (Or.inr rfl))
    (hdb : (x == ("__debug__" : Str)) = false := by decide) (hcd : (x == ("__classdict__" : Str)) = false := by decide)
    (he : ∀ env, starEach (e :: es) env = (false, eval e env) :: starEach es env := by intro _; rfl) (hpl : ∀ env, (backTo pos (starEach es env)).any (·.1) = false := by intro _; rfl) :
    JE p N k sc (.Call (.Name x pp) (e :: es) [] pos) (semCallL i L fa) := fun W X c => by
  refine ⟨fun pins s σ H Q I h => ?_⟩
  have h0 := h
  obtain ⟨F, α, S, ρ, st, en, q⟩ := h
  unfold semCallL at q
  cases hr : ρ[i]? with
  | none => rw [hr] at q; exact q.elim
  | some od =>
    rw [hr] at q
    cases od with
    | none => exact q.elim
    | some d =>
      cases d with
      | gl y =>
        dsimp only at q
        cases hc : candAt L y with
        | none => rw [hc] at q; exact q.elim
        | some ng =>
          obtain ⟨n, g⟩ := ng
          rw [hc] at q
          dsimp only at q
          obtain ⟨kf, hk, Gf⟩ := G.at_ hc
          obtain ⟨ff, fd, ps, h1, h2, h3, h4, h5⟩ := Gf.ex
          obtain ⟨v, hs, hv1⟩ := en.at_ i _ hr
          cases hv1 with
          | gl hm =>
            rw [h1] at hm
            cases hm
            have F5 : FnOk X.prog X.w X.K X.mg X.base (L2.CX X.prog X.w) kf ff fd ps (spG p n g) := by rw [c.prog, c.w, c.K, c.mg, c.base]; exact h5
            have ht : LA p W fa σ H fun vs H1 => ∃ F α S ds, StOk p F α S H1 ∧ Rps p F α vs ds ∧ Sat p F α (if ds.length = n then g ds S else .no) Q fun c d H' => W c d σ H' :=
              LE.args (fa := fa) (k := fun ds S => if ds.length = n then g ds S else .no) ⟨F, α, S, ρ, st, en, q⟩
            refine wpAny_Call_Name_kw (thn ((pe_var (X := X) (i := i) (pos := pp) (by rw [c.hN]; exact hN) (by rw [c.hsc]; exact hv) hdb hcd).run pins s σ H (fun v H1 => v = .ref ff ∧ H1 = H) I ⟨.ref ff, hs, rfl, rfl⟩) fun u s1 ⟨v, H1, I1, r1, q1⟩ => ?_)
            obtain ⟨rfl, rfl⟩ := q1
            cases r1
            refine PySem.W.callWith_K (h₀ := X.base) I.ok.mod.kin (by rw [c.K]; exact h2) (thn ((ha W X c).run pos pins s1 σ _ _ I1 ht) fun us s2 ⟨vs, H2, I2, r, q⟩ => ⟨I2.kIn, ?_⟩) (he _) (hpl _)
            obtain ⟨F1, α1, S1, ds, s1', r1', q1'⟩ := q
            refine run_fnS (E := WE W) F5 (c.room.mono hk) (by rw [c.K]; exact h3) (passAt c.tk σ) I2 r ?_
            split at q1'
            · rename_i hl
              exact ⟨F1, α1, S1, ds, s1', r1', hl, q1'⟩
            · exact q1'.elim
      | _ => exact q.elim
/-- list * n, list + list as objects of the store -/
def opRepO (d e : D) (S : Sto) : R D := match e with
  | .int n => (match lstOf S d with
    | some a => if 0 ≤ n ∧ n ≤ 1000 ∧ a.length ≤ 1000 then .ok (.own S.length) (S ++ [.lst (repl n a)]) else .no
    | none => .no)
  | _ => .no
def opCatO (d e : D) (S : Sto) : R D := match lstOf S d, lstOf S e with
  | some a, some b => if a.length + b.length ≤ sizeLine then .ok (.own S.length) (S ++ [.lst (a ++ b)]) else .no
  | _, _ => .no
theorem repG {W : WX} {X : Cx} (c : COk p N k sc W X) : OpG p opRepO (rMulA X) := by
  intro F α S H v w d e Q E s r1 r2 q
  unfold opRepO at q
  split at q
  · cases r2
    split at q
    · rename_i xs e1
      split at q
      · rename_i h
        obtain ⟨a, vs, rfl, h1, h2⟩ := s.lstOf r1 e1
        exact .inr (.inr (.inr ⟨_, _, _, rfl, rfl, by rw [c.K]; exact h1, h.1, h.2.1, by rw [h2.length]; exact h.2.2, q.own (u := .lst _) s (show OU p F α (.lst _) (.lst _) from h2.flat _)⟩))
      · exact q.elim
    · exact q.elim
  · exact q.elim
theorem je_repO (ha : JE p N k sc a f) (hb : JE p N k sc b g) : JE p N k sc (.BinOp a .Mult b pos) (sem2 opRepO f g) := je_op (fun _ X _ => mulR X) (fun _ _ c => repG c) ha hb
theorem catG {W : WX} {X : Cx} (c : COk p N k sc W X) : OpG p opCatO (rAddA X) := by
  intro F α S H v w d e Q E s r1 r2 q
  unfold opCatO at q
  cases e1 : lstOf S d with
  | none => rw [e1] at q; exact q.elim
  | some xs =>
    cases e2 : lstOf S e with
    | none => rw [e1, e2] at q; exact q.elim
    | some ys =>
      rw [e1, e2] at q
      dsimp only at q
      split at q
      · rename_i hz
        obtain ⟨a, vs, rfl, h1, h2⟩ := s.lstOf r1 e1
        obtain ⟨b, ws, rfl, h3, h4⟩ := s.lstOf r2 e2
        exact .inr (.inr (.inr ⟨a, b, vs, ws, rfl, rfl, by rw [c.K]; exact h1, by rw [c.K]; exact h3, by rw [h2.length, h4.length]; exact hz, q.own (u := .lst _) s (show OU p F α (.lst _) (.lst _) from h2.append h4)⟩))
      · exact q.elim
theorem je_catO (ha : JE p N k sc a f) (hb : JE p N k sc b g) : JE p N k sc (.BinOp a .Add b pos) (sem2 opCatO f g) := je_op (fun _ X _ => addR X) (fun _ _ c => catG c) ha hb
end
end GB
/-! enumerate of a list. -/
namespace GB
open PySem L2 PyProof.Rows
theorem enumL_get : ∀ (ds : List D) (n i : Nat) (d : D), (enumL n ds)[i]? = some d → ∃ e, ds[i]? = some e ∧ d = .tup [.int ((n + i : Nat) : Int), e]
  | [], n, i, d, h => by simp [enumL] at h
  | e :: ds, n, 0, d, h => by simp [enumL] at h; exact ⟨e, rfl, h.symm⟩
  | e :: ds, n, i + 1, d, h => by
    rw [enumL, List.getElem?_cons_succ] at h
    obtain ⟨e', h1, h2⟩ := enumL_get ds (n + 1) i d h
    exact ⟨e', by simpa using h1, by rw [h2, show n + 1 + i = n + (i + 1) by omega]⟩
theorem enumL_len : ∀ (ds : List D) (n : Nat), (enumL n ds).length = ds.length
  | [], n => rfl
  | e :: ds, n => by rw [enumL, List.length_cons, enumL_len ds, List.length_cons]
/-- enumerate of a list -/
def bEnumL : List D → Sto → R (List D)
  | [d], S => (match d with
    | .str _ => .no
    | .tup _ => .no
    | d => bEnum [d] S)
  | _, _ => .no
/-- a list that stands still -/
theorem walk_lst {p : Pc} {F : Hp} {α : List Addr} {S : Sto} {H : Hp} {v : V} {d : D} {xs : List D} (s : StOk p F α S H) (r : Rp p F α v d) (hn : ∀ z, d ≠ .str z) (ht : ∀ z, d ≠ .tup z) (h : walkOf S d = some xs) :
    ∃ (a : Addr) (vs : List V) (F1 : Hp), v = .ref a ∧ StOk p F1 α S H ∧ Ext F α F1 α ∧ Rps p F1 α vs xs ∧ SqL p.K H a vs ∧ ∀ F' α' S' H', Ext F1 α F' α' → StOk p F' α' S' H' → SqL p.K H' a vs := by
  obtain ⟨b, a, vs, F1, h1, h2, h3, h4, h5, h6⟩ := walk_sq s r hn h
  cases b with
  | true => exact ⟨a, vs, F1, h1, h2, h3, h4, h5, h6⟩
  | false =>
    cases d with
    | tup z => exact absurd rfl (ht z)
    | str z => exact absurd rfl (hn z)
    | lst ys =>
      have e' : ys = xs := Option.some.inj h
      subst e'
      cases r with
      | lst q1 q2 => exact ⟨_, _, F, rfl, s, Ext.refl F α, q2, s.sql q1, fun F' α' S' H' x s' => s'.sql (x.w.dql q1)⟩
    | own k =>
      cases r with
      | own q1 =>
        unfold walkOf at h
        dsimp only at h
        cases hS : S[k]? with
        | none => rw [hS] at h; cases h
        | some o =>
          rw [hS] at h
          cases o with
          | frz o =>
            cases o with
            | lst ys =>
              have e' : ys = xs := Option.some.inj h
              subst e'
              obtain ⟨a', u, g2, g3, g4⟩ := s.own _ _ hS
              rw [q1] at g2; cases g2
              cases u with
              | frz ob u =>
                cases u with
                | lst ws =>
                  obtain ⟨F1, f1, s1, x1⟩ := s.hold q1 g3 (show Flat (.lst ws) from fun _ _ z => nomatch z)
                  have g4 : Rps p F α ws ys := g4
                  have key : ∀ F' α' S' H', Ext F1 α F' α' → StOk p F' α' S' H' → SqL p.K H' _ ws := fun F' α' S' H' x s' => by
                    have := s'.sub _ _ (x.f _ _ f1)
                    rw [ung_frz (show Flat (.lst ws) from fun _ _ z => nomatch z)] at this
                    exact .inl (.inr ⟨ob, this⟩)
                  exact ⟨_, ws, F1, rfl, s1, x1, Rps.ext x1 _ _ g4, key F1 α S H (Ext.refl _ _) s1, key⟩
                | _ => exact (show False from g4).elim
              | _ => exact (show False from g4).elim
            | _ => cases h
          | _ => cases h
    | _ => cases h
theorem it_enum {p : Pc} {F : Hp} {α : List Addr} {a : Addr} {vs : List V} {ds : List D} (h1 : ∀ F' α' S' H, Ext F α F' α' → StOk p F' α' S' H → SqL p.K H a vs) (r1 : Rps p F α vs ds) : ItOk p F α (Ite p.K a) (enumL 0 ds) := fun F' α' S' H x s => by
  refine ⟨fun i d hd => ?_, fun i hi => ⟨vs, h1 _ _ _ _ x s, by rw [enumL_len] at hi; rw [r1.length]; exact hi⟩⟩
  obtain ⟨e, e1, rfl⟩ := enumL_get ds 0 i d hd
  obtain ⟨v, f1, g1⟩ := Rps.get (Rps.ext x _ _ r1) e1
  refine ⟨⟨vs, v, h1 _ _ _ _ x s, f1⟩, fun y H' hy => ?_⟩
  obtain ⟨T, x', rfl, hT, rfl, q1⟩ := hy
  have q1 := q1 vs (h1 _ _ _ _ x s)
  rw [f1] at q1; cases q1
  obtain ⟨s', x'⟩ := s.laid hT (.tup [.int (i : Nat), v])
  rw [Nat.zero_add]
  exact ⟨_, x', s', .tup upd_same (.cons (.int _) (.cons (Rp.ext x' _ _ g1) .nil))⟩
section
variable {p : Pc} {N : List Str} {k : Nat} {sc : Sco} {a b c e : Expr} {es elts : List Expr} {f g h : Sem} {fa : SemA} {pos pp tpos : Pos} {kk : Nat}
theorem ji_enum (hm : p.mg ("enumerate" : Str) = none) (ha : JA p N k sc [a] fa) (hg : sc.names.lookup ("enumerate" : Str) = some .globalImplicit := by rfl) (hs : ∀ env, starEach [a] env = [(false, eval a env)] := by intro _; rfl) :
    JI p N k sc (.Tuple elts kk tpos) (.Call (.Name "enumerate" pp) [a] [] pos) (semArg bEnumL fa) := fun W X c => by
  refine PI.imp (pi_enum (by show X.env.scope.names.lookup _ = _; rw [c.hsc]; exact hg) (by rw [c.mg]; exact hm) (ha W X c) (hs _)) fun σ H R h => ?_
  refine LA.imp h.args fun vs H1 ⟨F, α, S, ds, s, r, q⟩ => ?_
  unfold bEnumL at q
  split at q
  · rename_i d
    split at q
    · exact q.elim
    · exact q.elim
    · rename_i n1 n2
      obtain ⟨v, rfl, r1⟩ := one_of r
      simp only [bEnum] at q
      cases hx : walkOf S d with
      | none => rw [hx] at q; exact q.elim
      | some xs =>
        rw [hx] at q
        obtain ⟨aa, us, F1, rfl, s1, x1, rr1, q1, k1⟩ := walk_lst s r1 n1 n2 hx
        refine ⟨aa, us, rfl, by rw [c.K]; exact q1, ?_⟩
        rw [c.K]
        exact q _ H1 F1 α x1 s1 (it_enum k1 rr1)
  · exact q.elim
end
end GB
/-! A lambda without parameters, handed to a def that tries it. -/
namespace GB
open PySem L2 PyProof.Rows LamX
/-- the first clause that takes an exception: what its suite hands back -/
def handD (tk : Str → Str → Option Bool) (x : Exn) : List (Str × D) → Option D
  | [] => none
  | e :: r => match tk x.cls e.1 with
    | some true => some e.2
    | some false => handD tk x r
    | none => none
/-- def x(a): try: a() except ..: return ..; return d0, called with a lambda -/
def semLam (tk : Str → Str → Option Bool) (hs : List (Str × D)) (ret : Bool) (d0 : D) (fb : Sem) : Sem := fun ρ S => match fb ρ S with
  | .ok d S1 => .ok (if ret = true then d else d0) S1
  | .ex x S1 => (match handD tk x hs with
    | some d => .ok d S1
    | none => .no)
  | .no => .no
abbrev hRet (hs : List (Str × D)) : List (Str × SemS) := hs.map fun e => (e.1, sRet (semC e.2))
theorem sHands_ret {tk : Str → Str → Option Bool} {x : Exn} {d : D} {ρ : Env} {S : Sto} : ∀ {hs : List (Str × D)}, handD tk x hs = some d → sHands tk x (hRet hs) ρ S = .rt d S
  | [], h => by cases h
  | e :: r, h => by
    show (match tk x.cls e.1 with | some true => sRet (semC e.2) ρ S | some false => sHands tk x (hRet r) ρ S | none => .no) = _
    unfold handD at h
    cases ht : tk x.cls e.1 with
    | none => rw [ht] at h; cases h
    | some b =>
      rw [ht] at h
      cases b with
      | true => cases h; rfl
      | false => exact sHands_ret h
theorem env_none {p : Pc} {F : Hp} {α : List Addr} (σ : L2.St) : EnvOk p F α σ (List.replicate σ.length none) := by
  refine ⟨fun i d h => ?_, by simp⟩
  rw [List.getElem?_replicate] at h
  split at h <;> cases h
section
variable {p : Pc}
/-- the clauses as the layer has them, of any context -/
theorem hds_ok2 {N : List Str} {sc : Sco} {W : WX} {X : Cx} (uK : UOk p N sc X) (hm : X.mg = p.mg) {hds : List ExceptHandler} {l : List (Str × SemS)} (h : JHs p N sc hds l) :
    ∃ L : List (Value × (Addr → Value → Option Addr → TS)), HdsOk X hds L ∧ L.length = l.length ∧ ∀ (n : Nat) (y : Str × SemS), l[n]? = some y → ∃ C, p.mg y.1 = some (.ref C) ∧ L[n]? = some (.ref C, fun _ _ _ => LS p W y.2) := by
  induction h with
  | nil => exact ⟨[], .nil, rfl, fun n y h => by simp at h⟩
  | @cons x f b₀ suite np pos' hds l hg hd hmm hs r ih =>
    obtain ⟨L, h1, h2, h3⟩ := ih
    obtain ⟨C, hC⟩ := hmm
    refine ⟨(.ref C, fun _ _ _ => LS p W f) :: L, .cons ⟨by show X.env.scope.names.lookup x = _; rw [uK.hsc]; exact hg, hd, .inl (by rw [hm]; exact hC)⟩ (fun a oe cls d pn _ _ => hs W _ ⟨uK.K, uK.hN, uK.nd, uK.hsc⟩) h1, by simp [h2], fun n y hy => ?_⟩
    cases n with
    | zero =>
      simp at hy; subst hy
      exact ⟨C, hC, rfl⟩
    | succ n => simpa using h3 n y (by simpa using hy)
/-- what the callee makes of the lambda's reading -/
def lamE (p : Pc) (tk : Str → Str → Option Bool) (hs : List (Str × D)) (Q : VK) : XK := fun cls dd H' => ∃ F α S x d, StOk p F α S H' ∧ ExR p F α x cls dd ∧ handD tk x hs = some d ∧ ∀ v H2 F2 α2, Ext F α F2 α2 → StOk p F2 α2 S H2 → Rp p F2 α2 v d → Q v H2
def TTg (p : Pc) (tk : Str → Str → Option Bool) (hs : List (Str × D)) (d0 : D) (Ng : List Str) : (XK → Hp → VK → Prop) → Hp → VK → Prop := fun tl H Q =>
  ∀ f : Addr, tl (lamE p tk hs Q) H (fun _ H' => LS p (fun _ _ _ _ => False) (sRet (semC d0)) { nx := fun _ H' => Q .non H', rt := Q } (L2.start Ng [.ref f]) H')
theorem lam_gives {X : Cx} (cK : X.K = p.K) (cm : X.mg = p.mg) {tk : Str → Str → Option Bool} (TK : TkF p tk) {hs : List (Str × D)} {d0 : D} {Ng : List Str} {x a q : Str} {sg : Sco} {g : Addr} {cdg : Value} {h₀ : ExceptHandler} {hds : List ExceptHandler} {r : Stmt} {p1 p2 p3 p4 : Pos}
    (nd : Ng.Nodup) (hh : JHs p Ng sg (h₀ :: hds) (hRet hs)) (hr : JU p Ng sg [r] (sRet (semC d0)))
    (hsw : ∀ env, swapsWith (.Call (.Name a p1) [] [] p2) none p3.line env = pure false) (h0 : ∀ f : Addr, (L2.start Ng [V.ref f])[0]? = some (some (V.ref f))) :
    GivesTo X Ng x sg.toScope g cdg [.Try [.Expr (.Call (.Name a p1) [] [] p2) p3] (h₀ :: hds) [] [] p4, r] a q (TTg p tk hs d0 Ng) := by
  intro f c' s H Q tl act hc h
  have u : UOk p Ng sg (cxOf C8.CX0 X.prog X.w X.K X.mg X.base Ng x sg.toScope g cdg X.A X.stack s H C8.E0).nox := ⟨cK, rfl, nd, rfl⟩
  obtain ⟨L, h1, h2, h3⟩ := hds_ok2 (W := fun _ _ _ _ => False) u cm hh
  refine ⟨_, pss_cons (ps_try_many (X := (cxOf C8.CX0 X.prog X.w X.K X.mg X.base Ng x sg.toScope g cdg X.A X.stack s H C8.E0).nox)
      (tb := fun W D σ H => ∃ Ech : XK, (∀ cls d σ' H', Ech cls d H' → W cls d σ' H') ∧ σ[0]? = some (some (.ref f)) ∧ H c' = some (CodeO c' q) ∧ tl Ech H fun _ H' => D.nx σ H')
      rfl rfl L2.takes0 (fun W pn xe tk' _ => ?_) h1) (hr (fun _ _ _ _ => False) _ u), ?_⟩
  · refine ⟨fun pins s' σ H' D I h' => ?_⟩
    obtain ⟨Ech, hW, k1, k2, k3⟩ := h'
    have hp := act W pn xe Ech p1 p2 tk' hW
    exact (pss_one (ps_expr hp (hsw _))).run pins s' σ H' D I ⟨k1, k2, k3⟩
  · refine ⟨lamE p tk hs Q, fun cls d σ' H' hE => ?_, h0 f, hc, ?_⟩
    rotate_left
    · exact h f
    · obtain ⟨F, α, S, y, dd, s1, r1, e1, k1⟩ := hE
      have := wMany_ok (p := p) (W := fun _ _ _ _ => False) TK (Dn := { nx := LS p (fun _ _ _ _ => False) (sRet (semC d0)) { nx := fun _ H' => Q .non H', rt := Q }, rt := Q }) (x := y) (ρ := List.replicate σ'.length none) (S := S) (F := F) (α := α) h2 h3 (by
        rw [sHands_ret e1]
        exact k1) s1 (env_none σ') r1
      rw [cK]
      exact this
variable {N : List Str} {k : Nat} {sc : Sco}
/-- x(lambda: body) -/
theorem je_lam {x a : Str} {st : Stmt} {Ng : List Str} {tk : Str → Str → Option Bool} {hs : List (Str × D)} {d0 : D} {h₀ : ExceptHandler} {hds : List ExceptHandler} {r : Stmt} {p1 p2 p3 p4 pp lpos pos : Pos} {params : Arguments} {body : Expr} {scope : Scope} {fb : Sem}
    (Df : DefF p x st) (Sg : FnScope Ng [a] (defScope st)) (TK : TkF p tk)
    (hbind : ∀ (dV kV doc pm : Value) (an : Option Addr) (cdv ct : Value) (us : List Value), us.length = 1 → bindArgs (PySem.W.fnOf x x (defArgs st) (defBody st) (defScope st) .none kV doc pm an cdv ct) ⟨us, []⟩ = pure ([a].zip us))
    (hbd : defBody st = [.Try [.Expr (.Call (.Name a p1) [] [] p2) p3] (h₀ :: hds) [] [] p4, r])
    (hh : JHs p Ng (ds st) (h₀ :: hds) (hRet hs)) (hr : JU p Ng (ds st) [r] (sRet (semC d0))) (hb : JE p N k ⟨scope, false⟩ body fb)
    (hL : lamSB sc.toScope scope = true := by decide +kernel) (hown : sc.own = true := by rfl) (hg : sc.names.lookup x = some .globalImplicit := by rfl)
    (hdef : ∀ env, defaultsOf params env = ([], []) := by intro _; rfl)
    (hlb : ∀ (q : Str) (cl : List (Str × Addr)) (pm cv ctv : Value), bindArgs (PySem.W.kla_fn "<lambda>" q params body scope cl pm cv ctv) ⟨[], []⟩ = pure [] := by intro _ _ _ _ _; rfl)
    (hsw : ∀ env, swapsWith (.Call (.Name a p1) [] [] p2) none p3.line env = pure false := by intro _; rfl) (h0 : ∀ f : Addr, (L2.start Ng [V.ref f])[0]? = some (some (V.ref f)) := by intro _; rfl)
    (hNg : Ng[0]? = some a := by rfl) (hva : ((ds st).names.lookup a = some .local ∨ (ds st).names.lookup a = some .cell ∨ (ds st).names.lookup a = some .free) := by first | exact Or.inl rfl | exact Or.inr (Or.inl rfl) | exact Or.inr (Or.inr rfl))
    (hdb : (x == ("__debug__" : Str)) = false := by decide) (hd : (a == ("__debug__" : Str)) = false := by decide) (hcd : (a == ("__classdict__" : Str)) = false := by decide) :
    JE p N (k + 2) sc (.Call (.Name x pp) [.Lambda params body scope lpos] [] pos) (semLam tk hs false d0 fb) := fun W X c => by
  obtain ⟨g, fd, hm, FD, _⟩ := Df.ex
  have bd := FD.bindsN (ps := [a]) fun kV doc pm an cdv ct us hl => hbind .none kV doc pm an cdv ct us hl
  have kp := FD.kp
  obtain ⟨oc, od, dV, kV, doc, pm, an, cdv, ct, osl, rfl, lk, hcd2, hdf, _⟩ := FD.ex
  obtain ⟨cc, P, hcode, TB, hmT, hu⟩ := (c.cd hown).ex
  have TB' : TabB X.base X.mg cc P := by rw [c.base, c.mg]; exact TB
  have ge := lam_gives (X := X) (q := X.env.qual ++ "<lambda>") (x := x) (g := g) (cdg := cdv) c.K c.mg TK (p4 := p4) (sg := ds st) Sg.nd hh hr hsw h0
  rw [← hbd] at ge
  have L : LamS X.env.scope scope := by rw [c.hsc]; exact lamS_by hL
  have room : Room (k + 2) X.A := c.room
  refine PE.imp (pe_lamcall (T := p.T) (k := k) (t := fun E => LE p (fun cls d _ H => E cls d H) fb) (by show X.env.scope.names.lookup x = _; rw [c.hsc]; exact hg) (by rw [c.mg]; exact hm) (by rw [c.K]; exact kp) (by rw [c.K]; exact lk) (by rw [c.K]; exact hcd2) (by rw [c.K]; exact bd) Sg hNg hva ge TB' hcode hmT hu room L (hdef _) hlb
    (fun A outer s H E f c' hr' => hb _ _ ⟨c.prog, c.w, c.K, c.mg, c.base, rfl, c.hN, c.nd, rfl, hr', takes_of (E := E) rfl rfl rfl rfl, fun z => nomatch z⟩) hdb hd hcd) fun σ H Q h => ?_
  obtain ⟨F, α, S, ρ, s, e, q⟩ := h
  refine ⟨s.tb.t, fun H1 eN T1 f => ?_⟩
  have s1 := s.extN eN T1
  refine ⟨F, α, S, ρ, s1, e, ?_⟩
  unfold semLam at q
  cases hf : fb ρ S with
  | no => rw [hf] at q; exact q.elim
  | ok d S1 =>
    rw [hf] at q
    intro v H' F' α' x' s' r'
    exact ⟨F', α', S1, _, s', env_none _, fun v2 H2 F2 α2 x2 s2 r2 => q v2 H2 F2 α2 (x'.trans x2) s2 r2⟩
  | ex y S1 =>
    rw [hf] at q
    dsimp only at q
    intro cls dd H' F' α' x' s' r'
    cases hd2 : handD tk y hs with
    | none => rw [hd2] at q; exact q.elim
    | some d =>
      rw [hd2] at q
      exact ⟨F', α', S1, y, d, s', r', hd2, fun v2 H2 F2 α2 x2 s2 r2 => q v2 H2 F2 α2 (x'.trans x2) s2 r2⟩
end
end GB
/-! Tuples of texts that the top has written. -/
namespace GB
open PySem L2 PyProof.Rows
structure GT (p : Pc) (x : Str) (zs : List Str) : Prop where
  ex : ∃ a, p.mg x = some (.ref a) ∧ SqT p.K (fun _ => none) a (zs.map V.str)
abbrev tupS (zs : List Str) : D := .tup (zs.map D.str)
section
variable {p : Pc} {N : List Str} {k : Nat} {sc : Sco} {a b c e : Expr} {f g : Sem} {pos pp : Pos}
theorem sqT_any {K : PySem.W.Frag} {H : Hp} {a : Addr} {xs : List V} (h : SqT K (fun _ => none) a xs) : SqT K H a xs := by
  rcases h with (h | ⟨o, h⟩) | h
  · cases h
  · cases h
  · exact .inr h
theorem strs_rq {F : Hp} {α : List Addr} : ∀ l : List Str, Rps p F α (l.map V.str) (l.map D.str)
  | [] => .nil
  | c :: l => .cons (.str _) (strs_rq l)
theorem je_inT {x : Str} {zs : List Str} (G : GT p x zs) (ha : JE p N k sc a f) (hg : sc.names.lookup x = some .globalImplicit := by rfl) (hd : (x == ("__debug__" : Str)) = false := by decide) (hm : behindInMarks .In (.Name x pp) = false := by rfl) :
    JE p N k sc (.Compare a [.In] [.Name x pp] pos) (sem2 opIn f (semC (tupS zs))) := fun W X c => by
  obtain ⟨b, h1, h2⟩ := G.ex
  refine PE.imp (pe_cmpR (op_inA c.units65) (ha W X c) (pe_glob (X := X) (v := .ref b) (by show X.env.scope.names.lookup x = _; rw [c.hsc]; exact hg) (by rw [c.mg]; exact h1) rfl hd) hm) fun σ H Q h => ?_
  obtain ⟨F, α, S, ρ, s, e, q⟩ := h
  refine ⟨F, α, S, ρ, s, e, (Sat.bind q).imp (fun v H1 ⟨F1, α1, S1, d, x1, s1, r1, q1⟩ => ?_) fun _ _ _ z => z⟩
  have q1 : Sat p F1 α1 (opIn d (tupS zs) S1) Q fun c d H' => W c d σ H' := q1
  unfold opIn at q1
  have e1 : inD S1 d (tupS zs) = match toPS S1 d, toPs (zs.map D.str) with
      | some a, some bs => if SeqAt.shaped a && SeqAt.shaped (.list bs) then some (bs.any fun z => PyData.eqv z a) else none
      | _, _ => none := by
    unfold inD
    cases d <;> rfl
  rw [e1] at q1
  cases h3 : toPS S1 d with
  | none => rw [h3] at q1; exact q1.elim
  | some y =>
    cases h4 : toPs (zs.map D.str) with
    | none => rw [h3, h4] at q1; exact q1.elim
    | some bs =>
      rw [h3, h4] at q1
      dsimp only at q1
      split at q1
      · rename_i b2 hb2
        split at hb2
        · rename_i hs
          rw [Bool.and_eq_true] at hs
          cases hb2
          refine ⟨y, bs, by rw [c.K]; exact s1.dpS r1 h3, .inr (.tup (by rw [c.K]; exact sqT_any h2) (by rw [c.K]; exact Rps.dp s1 _ _ bs (strs_rq zs) h4)), hs.1, hs.2, ?_⟩
          exact q1.here s1 (.bl _)
        · cases hb2
      · exact q1.elim
theorem je_notinT {x : Str} {zs : List Str} (G : GT p x zs) (ha : JE p N k sc a f) (hg : sc.names.lookup x = some .globalImplicit := by rfl) (hd : (x == ("__debug__" : Str)) = false := by decide) (hm : behindInMarks .NotIn (.Name x pp) = false := by rfl) :
    JE p N k sc (.Compare a [.NotIn] [.Name x pp] pos) (sem2 opNotIn f (semC (tupS zs))) := fun W X c => by
  obtain ⟨b, h1, h2⟩ := G.ex
  refine PE.imp (pe_cmpR (op_notInA c.units65) (ha W X c) (pe_glob (X := X) (v := .ref b) (by show X.env.scope.names.lookup x = _; rw [c.hsc]; exact hg) (by rw [c.mg]; exact h1) rfl hd) hm) fun σ H Q h => ?_
  obtain ⟨F, α, S, ρ, s, e, q⟩ := h
  refine ⟨F, α, S, ρ, s, e, (Sat.bind q).imp (fun v H1 ⟨F1, α1, S1, d, x1, s1, r1, q1⟩ => ?_) fun _ _ _ z => z⟩
  have q1 : Sat p F1 α1 (opNotIn d (tupS zs) S1) Q fun c d H' => W c d σ H' := q1
  unfold opNotIn at q1
  have e1 : inD S1 d (tupS zs) = match toPS S1 d, toPs (zs.map D.str) with
      | some a, some bs => if SeqAt.shaped a && SeqAt.shaped (.list bs) then some (bs.any fun z => PyData.eqv z a) else none
      | _, _ => none := by
    unfold inD
    cases d <;> rfl
  rw [e1] at q1
  cases h3 : toPS S1 d with
  | none => rw [h3] at q1; exact q1.elim
  | some y =>
    cases h4 : toPs (zs.map D.str) with
    | none => rw [h3, h4] at q1; exact q1.elim
    | some bs =>
      rw [h3, h4] at q1
      dsimp only at q1
      split at q1
      · rename_i b2 hb2
        split at hb2
        · rename_i hs
          rw [Bool.and_eq_true] at hs
          cases hb2
          refine ⟨y, bs, by rw [c.K]; exact s1.dpS r1 h3, .inr (.tup (by rw [c.K]; exact sqT_any h2) (by rw [c.K]; exact Rps.dp s1 _ _ bs (strs_rq zs) h4)), hs.1, hs.2, ?_⟩
          exact q1.here s1 (.bl _)
        · cases hb2
      · exact q1.elim
/-- for x in NAME -/
theorem ji_seqT {tg : Expr} {x : Str} {zs : List Str} (G : GT p x zs) (hg : sc.names.lookup x = some .globalImplicit := by rfl) (hd : (x == ("__debug__" : Str)) = false := by decide) : JI p N k sc tg (.Name x pp) (semItems (semC (tupS zs))) := fun W X c => by
  obtain ⟨b, h1, h2⟩ := G.ex
  refine PI.imp (pi_tup (pe_glob (X := X) (v := .ref b) (by show X.env.scope.names.lookup x = _; rw [c.hsc]; exact hg) (by rw [c.mg]; exact h1) rfl hd)) fun σ H R h => ?_
  obtain ⟨F, α, S, ρ, s, e, q⟩ := h
  have q : SatI p F α (.ok (zs.map D.str) S) R fun c d H' => W c d σ H' := q
  refine ⟨b, rfl, ⟨_, by rw [c.K]; exact sqT_any h2⟩, ?_⟩
  refine q _ H F α (Ext.refl F α) s fun F' α' S' H' x s' => ?_
  have hq : SqT X.K H' b (zs.map V.str) := by rw [c.K]; exact sqT_any h2
  refine ⟨fun i d hd => ?_, fun i hi => ⟨_, hq, by simpa using hi⟩⟩
  obtain ⟨v, hv, rv⟩ := (strs_rq (p := p) (F := F') (α := α') zs).get hd
  exact ⟨⟨_, v, hq, hv⟩, fun y H2 ⟨e, hy⟩ => ⟨F', Ext.refl _ _, by rw [e]; exact s', by
    have := hy _ hq
    rw [hv] at this; cases this; exact rv⟩⟩
/-- what the head shows of such a name -/
def tupB (K : PySem.W.Frag) (x : Str) (zs : List Str) : Bool := match PySem.W.nsIn K mainGlobals x with
  | some (some (.ref a)) => (match K.lookup a with
    | some ⟨.type c, _, .seq its _, _⟩ => decide (c = "tuple") && (decide (its.size ≤ sizeLine) && He.relAll (zs.map V.str) its.toList)
    | _ => false)
  | _ => false
theorem tup_gt {x : Str} {zs : List Str} (X : ∃ h : Heap, p.K.In h ∧ h.Ns mainGlobals p.mg) (h : tupB p.K x zs = true) : GT p x zs := by
  obtain ⟨hh, X, G⟩ := X
  unfold tupB at h
  split at h
  · rename_i a ha
    split at h
    · rename_i c od its n sl hk
      obtain ⟨h1, h⟩ := He.ba h
      obtain ⟨h2, h3⟩ := He.ba h
      exact ⟨a, PySem.W.mg_of X G ha, .inr ⟨_, its, n, hk, congrArg Value.type (of_decide_eq_true h1), rfl, of_decide_eq_true h2, He.relAll_ok h3⟩⟩
    · cases h
  · cases h
end
end GB
/-! What is never come to; more rules. -/
namespace GB
open PySem L2 PyProof.Rows
def sNever : SemS := fun _ _ => .no
section
variable {p : Pc} {N : List Str} {k : Nat} {sc : Sco} {st : Stmt}
theorem js_never : JS p N k sc st sNever := fun W X c => by
  refine PS.imp ps_never fun Dn σ H ⟨F, α, S, ρ, s, e, q⟩ => ?_
  exact q.elim
end
end GB
/-! list(range(a, b)). -/
namespace GB
open PySem L2 PyProof.Rows
/-- list(range(a, b)) -/
noncomputable def semLR (f g : Sem) : Sem := fun ρ S => (f ρ S).bind fun x S1 => (g ρ S1).bind fun y S2 => (bRange2 [x, y] S2).bind fun ds S3 => if ds.length ≤ sizeLine then .ok (.lst ds) S3 else .no
section
variable {p : Pc} {N : List Str} {k : Nat} {sc : Sco} {a b : Expr} {f g : Sem} {pos p1 p2 pos2 : Pos}
theorem rg_rp {F : Hp} {α : List Addr} (i : Int) : ∀ l : List Nat, Rps p F α (l.map fun m => V.int (i + (m : Nat))) (l.map fun m => D.int (i + (m : Nat)))
  | [] => .nil
  | c :: l => .cons (.int _) (rg_rp i l)
theorem je_listR (hl : p.mg "list" = none) (hr : p.mg "range" = none) (ha : JE p N k sc a f) (hb : JE p N k sc b g) (hg : sc.names.lookup ("list" : Str) = some .globalImplicit := by rfl) (hg2 : sc.names.lookup ("range" : Str) = some .globalImplicit := by rfl)
    (na : ∀ env, starEach [a, b] env = (false, eval a env) :: starEach [b] env := by intro _; rfl) (nb : ∀ env, starEach [b] env = (false, eval b env) :: starEach [] env := by intro _; rfl) (hp : ∀ env, ((backTo pos2 (starEach [b] env)).any fun x => x.1) = false := by intro _; rfl) :
    JE p N k sc (.Call (.Name "list" p1) [.Call (.Name "range" p2) [a, b] [] pos2] [] pos) (semLR f g) := fun W X c => by
  refine PE.imp (pe_listRg c.calm (by show X.env.scope.names.lookup _ = _; rw [c.hsc]; exact hg) (by rw [c.mg]; exact hl) (prg_2 (by show X.env.scope.names.lookup _ = _; rw [c.hsc]; exact hg2) (by rw [c.mg]; exact hr) (ha W X c) (hb W X c) (na _) (nb _) (hp _))) fun σ H Q h => ?_
  obtain ⟨F, α, S, ρ, s, e, q⟩ := h
  refine ⟨F, α, S, ρ, s, e, (Sat.bind q).imp (fun v H1 ⟨F1, α1, S1, d, x1, s1, r1, q1⟩ => ?_) fun _ _ _ z => z⟩
  refine ⟨F1, α1, S1, ρ, s1, e.ext x1, (Sat.bind q1).imp (fun w H2 ⟨F2, α2, S2, d2, x2, s2, r2, q2⟩ => ?_) fun _ _ _ z => z⟩
  have r1' := Rp.ext x2 _ _ r1
  cases d with
  | int i =>
    cases d2 with
    | int j =>
      cases r1'; cases r2
      have q2 : Sat p F2 α2 ((bRange2 [.int i, .int j] S2).bind fun ds S3 => if ds.length ≤ sizeLine then .ok (.lst ds) S3 else .no) Q fun c d H' => W c d σ H' := q2
      by_cases hij : rngOk i ∧ rngOk j
      · have h1 := (rngOk_iff i).mp hij.1
        have h2 := (rngOk_iff j).mp hij.2
        rw [bRange2_ok h1 h2] at q2
        have q2 : Sat p F2 α2 (if ((List.range (j - i).toNat).map fun m => D.int (i + (m : Nat))).length ≤ sizeLine then .ok (.lst ((List.range (j - i).toNat).map fun m => D.int (i + (m : Nat)))) S2 else .no) Q fun c d H' => W c d σ H' := q2
        split at q2
        · rename_i hz
          refine ⟨i, j, rfl, rfl, ?_, fun q hq => ?_⟩
          · refine ⟨h1.1, h1.2, h2.1, h2.2, ?_⟩
            have hz2 : (j - i).toNat ≤ sizeLine := by simpa using hz
            have : sizeLine = 2 ^ 24 := by rfl
            omega
          · exact q2.lst s2 (rg_rp i _) q hq
        · exact q2.elim
      · have : bRange2 [.int i, .int j] S2 = .no := if_neg hij
        rw [this] at q2
        exact q2.elim
    | _ => exact q2.elim
  | _ => cases d2 <;> exact q2.elim
end
end GB
namespace Sh
open PySem L2 PyProof.Rows GB
noncomputable def sem_is_number : SemS := (sRet (semAnd (semCall bIsi (semCons (semVar 0) (semCons (semC (.ty .int)) semNil))) (semAnd (sem1 opNot (semCall bIsi (semCons (semVar 0) (semCons (semC (.ty .bool)) semNil)))) (semLeLe (semVar 1) (semVar 0) (semVar 2)))))
noncomputable def g_is_number : List D → Sto → R D := semFn 3 sem_is_number
noncomputable def sem_are_woods : SemS := (sSeq (sIf (semOr (sem1 opNot (semCall bIsi (semCons (semVar 0) (semCons (semC (.ty .tuple)) semNil)))) (sem1 opNot (semLeLe (semC (.int 2)) (semCall bLen (semCons (semVar 0) semNil)) (semC (.int 4))))) (sRet (semC (.bl false))) sNil) (sRet (semCall bAll (semCons (semLc finD (semItems (semVar 0)) [1] (gNm 1) (semC (.bl true)) (semAnd (semCall bIsi (semCons (semVar 1) (semCons (semC (.ty .str)) semNil))) (semAnd (sem2 opEq (semCall bLen (semCons (semVar 1) semNil)) (semC (.int 1))) (sem2 opIn (semVar 1) (semC (.str "abcd")))))) semNil))))
noncomputable def g_are_woods : List D → Sto → R D := semFn 2 sem_are_woods
noncomputable def sem_is_deed_of : SemS := (sSeq (sIf (semOr (sem1 opNot (semCall bIsi (semCons (semVar 0) (semCons (semC (.ty .tuple)) semNil)))) (sem1 opNot (semLeLe (semC (.int 2)) (semCall bLen (semCons (semVar 0) semNil)) (semC (.int 4))))) (sRet (semC (.bl false))) sNil) (sSeq (sIf (semOr (sem1 opNot (semCall bIsi (semCons (sem2 opIx (semVar 0) (semC (.int 0))) (semCons (semC (.ty .str)) semNil)))) (semOr (sem2 opNotIn (sem2 opIx (semVar 0) (semC (.int 0))) (semTup (semCons (semC (.str "rows")) (semCons (semC (.str "slices")) semNil)))) (sem1 opNot (semCall bIsi (semCons (sem2 opIx (semVar 0) (semC (.int 1))) (semCons (semC (.ty .str)) semNil)))))) (sRet (semC (.bl false))) sNil) (sSeq (sIf (sem2 opEq (sem2 opIx (semVar 0) (semC (.int 1))) (semC (.str "back"))) (sRet (sem2 opEq (semCall bLen (semCons (semVar 0) semNil)) (semC (.int 2)))) sNil) (sSeq (sIf (sem2 opIn (sem2 opIx (semVar 0) (semC (.int 1))) (semTup (semCons (semC (.str "roll")) (semCons (semC (.str "shift")) semNil)))) (sRet (semAnd (sem2 opEq (semCall bLen (semCons (semVar 0) semNil)) (semC (.int 3))) (semAnd (semCall (fun ds S => if ds.length = 3 then g_is_number ds S else .no) (semCons (sem2 opIx (semVar 0) (semC (.int 2))) (semCons (sem1 opNeg (semC (.int 2))) (semCons (semC (.int 2)) semNil)))) (sem2 opNe (sem2 opIx (semVar 0) (semC (.int 2))) (semC (.int 0)))))) sNil) (sSeq (sIf (semOr (sem2 opNe (sem2 opIx (semVar 0) (semC (.int 1))) (semC (.str "turn"))) (semOr (sem2 opNe (semCall bLen (semCons (semVar 0) semNil)) (semC (.int 4))) (sem1 opNot (semCall (fun ds S => if ds.length = 3 then g_is_number ds S else .no) (semCons (sem2 opIx (semVar 0) (semC (.int 2))) (semCons (semC (.int 1)) (semCons (semC (.int 3)) semNil))))))) (sRet (semC (.bl false))) sNil) (sRet (semCall (fun ds S => if ds.length = 3 then g_is_number ds S else .no) (semCons (sem2 opIx (semVar 0) (semC (.int 3))) (semCons (semC (.int 0)) (semCons (sem2 opSub (sem2 opIx (semVar 0) (semC (.int 2))) (semC (.int 1))) semNil))))))))))
noncomputable def g_is_deed_of : List D → Sto → R D := semFn 1 sem_is_deed_of
noncomputable def sem_is_plan_of : SemS := (sSeq (sIf (semOr (sem1 opNot (semCall bIsi (semCons (semVar 0) (semCons (semC (.ty .tuple)) semNil)))) (semOr (sem2 opNe (semCall bLen (semCons (semVar 0) semNil)) (semC (.int 2))) (sem1 opNot (semCall (fun ds S => if ds.length = 1 then g_are_woods ds S else .no) (semCons (sem2 opIx (semVar 0) (semC (.int 0))) semNil))))) (sRet (semC (.bl false))) sNil) (sRet (semAnd (semCall bIsi (semCons (sem2 opIx (semVar 0) (semC (.int 1))) (semCons (semC (.ty .tuple)) semNil))) (semAnd (sem2 opLe (semCall bLen (semCons (sem2 opIx (semVar 0) (semC (.int 1))) semNil)) (semC (.int (6)))) (semCall bAll (semCons (semLc finD (semItems (sem2 opIx (semVar 0) (semC (.int 1)))) [1] (gNm 1) (semC (.bl true)) (semCall (fun ds S => if ds.length = 1 then g_is_deed_of ds S else .no) (semCons (semVar 1) semNil))) semNil))))))
noncomputable def g_is_plan_of : List D → Sto → R D := semFn 2 sem_is_plan_of
noncomputable def sem_need_plan : SemS := (sIf (sem1 opNot (semCall (fun ds S => if ds.length = 1 then g_is_plan_of ds S else .no) (semCons (semVar 0) semNil))) (sRaise "InvalidPlan") sNil)
noncomputable def g_need_plan : List D → Sto → R D := semFn 1 sem_need_plan
noncomputable def sem_undone : SemS := (sSeq (sIf (sem2 opIn (sem2 opIx (semVar 0) (semC (.int 1))) (semTup (semCons (semC (.str "roll")) (semCons (semC (.str "shift")) semNil)))) (sRet (semTup (semCons (sem2 opIx (semVar 0) (semC (.int 0))) (semCons (sem2 opIx (semVar 0) (semC (.int 1))) (semCons (sem1 opNeg (sem2 opIx (semVar 0) (semC (.int 2)))) semNil))))) sNil) (sRet (semVar 0)))
noncomputable def g_undone : List D → Sto → R D := semFn 1 sem_undone
noncomputable def sem_is_plan : SemS := (sRet (semCall (fun ds S => if ds.length = 1 then g_is_plan_of ds S else .no) (semCons (semVar 0) semNil)))
noncomputable def g_is_plan : List D → Sto → R D := semFn 1 sem_is_plan
noncomputable def sem_undoing : SemS := (sSeq (sExpr (semCall (fun ds S => if ds.length = 1 then g_need_plan ds S else .no) (semCons (semVar 0) semNil))) (sRet (semCall bTuple (semCons (sem1 opRev (semLc finD (semItems (sem2 opIx (semVar 0) (semC (.int 1)))) [1] (gNm 1) (semC (.bl true)) (semCall (fun ds S => if ds.length = 1 then g_undone ds S else .no) (semCons (semVar 1) semNil)))) semNil))))
noncomputable def g_undoing : List D → Sto → R D := semFn 2 sem_undoing
noncomputable def sem__law_stack : SemS := (sSeq (sAsg (semIte (sem2 opGe (semVar 0) (sem2 opPow (semC (.int 10)) (semC (.int 18)))) (sem2 opAdd (sem2 opDiv (semVar 0) (semC (.int 10))) (sem2 opMul (semC (.int 19)) (semVar 1))) (semC (.int 0))) (gNm 2)) (sRet (semLstO (semCons (semVar 2) (semCons (sem2 opAdd (sem2 opMod (semCall bInt (semCons (sem2 opAdd (sem2 opMul (semVar 0) (semC (.int 47))) (sem2 opMul (semC (.int 1009)) (semVar 1))) semNil)) (semC (.int 1506789301))) (semC (.int 23))) semNil)))))
noncomputable def g__law_stack : List D → Sto → R D := semFn 3 sem__law_stack
noncomputable def sem__law_saw : SemS := (sSeq (sIf (sem2 opGt (sem2 opIx (semVar 0) (semC (.int 0))) (semC (.int 0))) (sSeq (sAsg (sem2 opMod (semCall bInt (semCons (sem2 opIx (semVar 0) (semC (.int 0))) semNil)) (semVar 1)) (gNm 3)) (sSeq (sSub (sem2 opDiv (sem2 opIx (semVar 0) (semC (.int 0))) (semVar 1)) (semVar 0) (semC (.int 0))) (sRet (semVar 3)))) sNil) (sSeq (sSub (sem2 opMod (semCall bInt (semCons (sem2 opAdd (sem2 opMul (sem2 opIx (semVar 0) (semC (.int 1))) (semC (.int 41358))) (semC (.int 4001))) semNil)) (semC (.int 2147483549))) (semVar 0) (semC (.int 1))) (sSeq (sAsg (sem2 opMod (semCall bInt (semCons (sem2 opMul (sem2 opIx (semVar 0) (semC (.int 1))) (sem2 opAdd (sem2 opIx (semVar 0) (semC (.int 1))) (semC (.int 53)))) semNil)) (semC (.int 2147483587))) (gNm 2)) (sRet (sem2 opMod (semCall bInt (semCons (sem2 opDiv (semVar 2) (semC (.int 557))) semNil)) (semVar 1))))))
noncomputable def g__law_saw : List D → Sto → R D := semFn 4 sem__law_saw
noncomputable def sem__law_pick : SemS := (sRet (sem2 opIx (semVar 1) (semCall (fun ds S => if ds.length = 2 then g__law_saw ds S else .no) (semCons (semVar 0) (semCons (semCall bLen (semCons (semVar 1) semNil)) semNil)))))
noncomputable def g__law_pick : List D → Sto → R D := semFn 2 sem__law_pick
noncomputable def sem__law_deed : SemS := (sSeq (sPar [1, 2] (semCons (semCall (fun ds S => if ds.length = 2 then g__law_pick ds S else .no) (semCons (semVar 0) (semCons (semLst (semCons (semC (.str "rows")) (semCons (semC (.str "slices")) (semCons (semC (.str "slices")) semNil)))) semNil))) (semCons (semCall (fun ds S => if ds.length = 2 then g__law_saw ds S else .no) (semCons (semVar 0) (semCons (semC (.int 5)) semNil))) semNil))) (sSeq (sIf (sem2 opLt (semVar 2) (semC (.int 2))) (sSeq (sAsg (sem2 opAdd (semC (.int 1)) (semCall (fun ds S => if ds.length = 2 then g__law_saw ds S else .no) (semCons (semVar 0) (semCons (semC (.int 3)) semNil)))) (gNm 3)) (sRet (semTup (semCons (semVar 1) (semCons (semC (.str "turn")) (semCons (semVar 3) (semCons (semCall (fun ds S => if ds.length = 2 then g__law_saw ds S else .no) (semCons (semVar 0) (semCons (semVar 3) semNil))) semNil))))))) sNil) (sSeq (sIf (sem2 opEq (semVar 2) (semC (.int 2))) (sRet (semTup (semCons (semVar 1) (semCons (semC (.str "back")) semNil)))) sNil) (sRet (semTup (semCons (semVar 1) (semCons (semIte (sem2 opEq (semVar 2) (semC (.int 3))) (semC (.str "roll")) (semC (.str "shift"))) (semCons (semCall (fun ds S => if ds.length = 2 then g__law_pick ds S else .no) (semCons (semVar 0) (semCons (semLst (semCons (sem1 opNeg (semC (.int 2))) (semCons (sem1 opNeg (semC (.int 1))) (semCons (semC (.int 1)) (semCons (semC (.int 2)) semNil))))) semNil))) semNil))))))))
noncomputable def g__law_deed : List D → Sto → R D := semFn 4 sem__law_deed
noncomputable def sem__law_woods : SemS := (sSeq (sAsg (sem2 opAdd (semC (.int 2)) (semCall (fun ds S => if ds.length = 2 then g__law_saw ds S else .no) (semCons (semVar 0) (semCons (sem2 opSub (semVar 1) (semC (.int 1))) semNil)))) (gNm 2)) (sSeq (sIf (sem2 opGt (semCall (fun ds S => if ds.length = 2 then g__law_saw ds S else .no) (semCons (semVar 0) (semCons (semC (.int 3)) semNil))) (semC (.int 0))) (sRet (semSl (semTup (semCons (semC (.str "a")) (semCons (semC (.str "b")) (semCons (semC (.str "c")) (semCons (semC (.str "d")) semNil))))) .no (.e (semVar 2)))) sNil) (sRet (semCall bTuple (semCons (semLc finD (semArg bRange1 (semCons (semVar 2) semNil)) [3] (gNm 3) (semC (.bl true)) (semCall (fun ds S => if ds.length = 2 then g__law_pick ds S else .no) (semCons (semVar 0) (semCons (semLst (semCons (semC (.str "a")) (semCons (semC (.str "b")) (semCons (semC (.str "c")) (semCons (semC (.str "d")) semNil))))) semNil)))) semNil)))))
noncomputable def g__law_woods : List D → Sto → R D := semFn 4 sem__law_woods
noncomputable def sem__law_plan : SemS := (sSeq (sAsg (semCall (fun ds S => if ds.length = 2 then g__law_woods ds S else .no) (semCons (semVar 0) (semCons (semVar 1) semNil))) (gNm 3)) (sRet (semTup (semCons (semVar 3) (semCons (semCall bTuple (semCons (semLc finD (semArg bRange1 (semCons (semCall (fun ds S => if ds.length = 2 then g__law_saw ds S else .no) (semCons (semVar 0) (semCons (sem2 opAdd (semVar 2) (semC (.int 1))) semNil))) semNil)) [4] (gNm 4) (semC (.bl true)) (semCall (fun ds S => if ds.length = 1 then g__law_deed ds S else .no) (semCons (semVar 0) semNil))) semNil)) semNil)))))
noncomputable def g__law_plan : List D → Sto → R D := semFn 5 sem__law_plan
noncomputable def sem__law_strips : SemS := (sSeq (sAsg semNewT (gNm 2)) (sSeq (sFor (semArg bRange1 (semCons (semCall bLen (semCons (semVar 0) semNil)) semNil)) (gNm 3) (sFor (semArg bRange1 (semCons (semVar 1) semNil)) (gNm 4) (sSub (sem2 opIx (semVar 0) (semVar 3)) (semVar 2) (semTup (semCons (semVar 3) (semCons (semVar 4) semNil)))))) (sRet (semVar 2))))
noncomputable def g__law_strips : List D → Sto → R D := semFn 5 sem__law_strips
noncomputable def sem__law_goal : SemS := (sSeq (sAsg (semSl (semVar 2) .no (.e (semC (.int 2)))) (gTp [5, 6])) (sSeq (sAsg (semIte (sem2 opEq (semVar 5) (semC (.str "rows"))) (semTup (semCons (semVar 3) (semCons (semVar 4) (semCons (semVar 0) (semCons (semVar 1) semNil))))) (semTup (semCons (semVar 4) (semCons (semVar 3) (semCons (semVar 1) (semCons (semVar 0) semNil)))))) (gTp [7, 8, 9, 10])) (sSeq (sIf (semAnd (sem2 opEq (semVar 6) (semC (.str "turn"))) (sem2 opEq (sem2 opMod (semVar 7) (sem2 opIx (semVar 2) (semC (.int 2)))) (sem2 opIx (semVar 2) (semC (.int 3))))) (sAsg (sem2 opSub (sem2 opSub (semVar 10) (semC (.int 1))) (semVar 8)) (gNm 8)) (sIf (sem2 opEq (semVar 6) (semC (.str "shift"))) (sAsg (sem2 opMod (semCall bInt (semCons (sem2 opAdd (semVar 8) (sem2 opMul (sem2 opIx (semVar 2) (semC (.int 2))) (semVar 7))) semNil)) (semVar 10)) (gNm 8)) (sIf (sem2 opEq (semVar 6) (semC (.str "back"))) (sAsg (sem2 opSub (sem2 opSub (semVar 9) (semC (.int 1))) (semVar 7)) (gNm 7)) (sIf (sem2 opEq (semVar 6) (semC (.str "roll"))) (sAsg (sem2 opMod (semCall bInt (semCons (sem2 opAdd (semVar 7) (sem2 opIx (semVar 2) (semC (.int 2)))) semNil)) (semVar 9)) (gNm 7)) sNil)))) (sRet (semIte (sem2 opEq (semVar 5) (semC (.str "rows"))) (semTup (semCons (semVar 7) (semCons (semVar 8) semNil))) (semTup (semCons (semVar 8) (semCons (semVar 7) semNil))))))))
noncomputable def g__law_goal : List D → Sto → R D := semFn 11 sem__law_goal
noncomputable def sem__law_rows : SemS := (sRet (semCall bTuple (semCons (semLc finD (semArg bRange1 (semCons (semVar 0) semNil)) [3] (gNm 3) (semC (.bl true)) (semJoin (semC (.str "")) (semLc finD (semArg bRange1 (semCons (semVar 1) semNil)) [4] (gNm 4) (semC (.bl true)) (sem2 opDGet (semVar 2) (semTup (semCons (semVar 3) (semCons (semVar 4) semNil))))))) semNil)))
noncomputable def g__law_rows : List D → Sto → R D := semFn 5 sem__law_rows
noncomputable def sem__law_done : SemS := (sSeq (sAsg semNewT (gNm 4)) (sSeq (sLock 2 (sFor (semItems (semVar 2)) (gTp [5, 6]) (sSub (sem2 opDGet (semVar 2) (semTup (semCons (semVar 5) (semCons (semVar 6) semNil)))) (semVar 4) (semCall (fun ds S => if ds.length = 5 then g__law_goal ds S else .no) (semCons (semVar 0) (semCons (semVar 1) (semCons (semVar 3) (semCons (semVar 5) (semCons (semVar 6) semNil))))))))) (sRet (semVar 4))))
noncomputable def g__law_done : List D → Sto → R D := semFn 7 sem__law_done
noncomputable def sem__law_board : SemS := (sSeq (sPar [3, 4] (semCons (semCall bLen (semCons (sem2 opIx (semVar 0) (semC (.int 0))) semNil)) (semCons (semCall (fun ds S => if ds.length = 2 then g__law_strips ds S else .no) (semCons (sem2 opIx (semVar 0) (semC (.int 0))) (semCons (semVar 1) semNil))) semNil))) (sSeq (sFor (semItems (sem2 opIx (semVar 0) (semC (.int 1)))) (gNm 2) (sAsg (semCall (fun ds S => if ds.length = 4 then g__law_done ds S else .no) (semCons (semVar 3) (semCons (semVar 1) (semCons (semVar 4) (semCons (semVar 2) semNil))))) (gNm 4))) (sRet (semCall (fun ds S => if ds.length = 3 then g__law_rows ds S else .no) (semCons (semVar 3) (semCons (semVar 1) (semCons (semVar 4) semNil)))))))
noncomputable def g__law_board : List D → Sto → R D := semFn 5 sem__law_board
noncomputable def sem__law_int : SemS := (sRet (semAnd (semCall bIsi (semCons (semVar 0) (semCons (semC (.ty .int)) semNil))) (semAnd (sem1 opNot (semCall bIsi (semCons (semVar 0) (semCons (semC (.ty .bool)) semNil)))) (semLeLe (semVar 1) (semVar 0) (semVar 2)))))
noncomputable def g__law_int : List D → Sto → R D := semFn 3 sem__law_int
noncomputable def sem__law_are_woods : SemS := (sSeq (sIf (semOr (sem1 opNot (semCall bIsi (semCons (semVar 0) (semCons (semC (.ty .tuple)) semNil)))) (sem1 opNot (semLeLe (semC (.int 2)) (semCall bLen (semCons (semVar 0) semNil)) (semC (.int 4))))) (sRet (semC (.bl false))) sNil) (sRet (sem2 opEq (semLc finD (semItems (semVar 0)) [1] (gNm 1) (semOr (sem1 opNot (semCall bIsi (semCons (semVar 1) (semCons (semC (.ty .str)) semNil)))) (sem2 opNotIn (semVar 1) (semLst (semCons (semC (.str "a")) (semCons (semC (.str "b")) (semCons (semC (.str "c")) (semCons (semC (.str "d")) semNil))))))) (semVar 1)) (semLst semNil))))
noncomputable def g__law_are_woods : List D → Sto → R D := semFn 2 sem__law_are_woods
noncomputable def sem__law_is_deed : SemS := (sSeq (sIf (semOr (sem1 opNot (semCall bIsi (semCons (semVar 0) (semCons (semC (.ty .tuple)) semNil)))) (semOr (sem2 opLt (semCall bLen (semCons (semVar 0) semNil)) (semC (.int 2))) (semOr (sem1 opNot (semCall bIsi (semCons (sem2 opIx (semVar 0) (semC (.int 0))) (semCons (semC (.ty .str)) semNil)))) (sem1 opNot (semCall bIsi (semCons (sem2 opIx (semVar 0) (semC (.int 1))) (semCons (semC (.ty .str)) semNil))))))) (sRet (semC (.bl false))) sNil) (sSeq (sIf (sem2 opNotIn (sem2 opIx (semVar 0) (semC (.int 0))) (semLst (semCons (semC (.str "rows")) (semCons (semC (.str "slices")) semNil)))) (sRet (semC (.bl false))) sNil) (sSeq (sIf (sem2 opEq (sem2 opIx (semVar 0) (semC (.int 1))) (semC (.str "back"))) (sRet (sem2 opEq (semCall bLen (semCons (semVar 0) semNil)) (semC (.int 2)))) sNil) (sSeq (sIf (sem2 opIn (sem2 opIx (semVar 0) (semC (.int 1))) (semLst (semCons (semC (.str "roll")) (semCons (semC (.str "shift")) semNil)))) (sRet (semAnd (sem2 opEq (semCall bLen (semCons (semVar 0) semNil)) (semC (.int 3))) (semAnd (semCall (fun ds S => if ds.length = 3 then g__law_int ds S else .no) (semCons (sem2 opIx (semVar 0) (semC (.int 2))) (semCons (sem1 opNeg (semC (.int 2))) (semCons (semC (.int 2)) semNil)))) (sem2 opNe (sem2 opIx (semVar 0) (semC (.int 2))) (semC (.int 0)))))) sNil) (sSeq (sIf (semOr (sem2 opNe (sem2 opIx (semVar 0) (semC (.int 1))) (semC (.str "turn"))) (sem2 opNe (semCall bLen (semCons (semVar 0) semNil)) (semC (.int 4)))) (sRet (semC (.bl false))) sNil) (sRet (semAnd (semCall (fun ds S => if ds.length = 3 then g__law_int ds S else .no) (semCons (sem2 opIx (semVar 0) (semC (.int 2))) (semCons (semC (.int 1)) (semCons (semC (.int 3)) semNil)))) (semCall (fun ds S => if ds.length = 3 then g__law_int ds S else .no) (semCons (sem2 opIx (semVar 0) (semC (.int 3))) (semCons (semC (.int 0)) (semCons (sem2 opSub (sem2 opIx (semVar 0) (semC (.int 2))) (semC (.int 1))) semNil)))))))))))
noncomputable def g__law_is_deed : List D → Sto → R D := semFn 1 sem__law_is_deed
noncomputable def sem__law_is_plan : SemS := (sSeq (sIf (semOr (sem1 opNot (semCall bIsi (semCons (semVar 0) (semCons (semC (.ty .tuple)) semNil)))) (semOr (sem2 opNe (semCall bLen (semCons (semVar 0) semNil)) (semC (.int 2))) (sem1 opNot (semCall (fun ds S => if ds.length = 1 then g__law_are_woods ds S else .no) (semCons (sem2 opIx (semVar 0) (semC (.int 0))) semNil))))) (sRet (semC (.bl false))) sNil) (sSeq (sIf (semOr (sem1 opNot (semCall bIsi (semCons (sem2 opIx (semVar 0) (semC (.int 1))) (semCons (semC (.ty .tuple)) semNil)))) (sem2 opGt (semCall bLen (semCons (sem2 opIx (semVar 0) (semC (.int 1))) semNil)) (semC (.int 6)))) (sRet (semC (.bl false))) sNil) (sRet (sem2 opEq (semLc finD (semItems (sem2 opIx (semVar 0) (semC (.int 1)))) [1] (gNm 1) (sem1 opNot (semCall (fun ds S => if ds.length = 1 then g__law_is_deed ds S else .no) (semCons (semVar 1) semNil))) (semVar 1)) (semLst semNil)))))
noncomputable def g__law_is_plan : List D → Sto → R D := semFn 2 sem__law_is_plan
noncomputable def sem__law_odd : SemS := (sSeq (sAsg (semLst (semCons (semC .non) (semCons (semC (.bl true)) (semCons (semC (.bl false)) (semCons (semC (.int 0)) (semCons (semC (.int 1)) (semCons (semC (.int 2)) (semCons (semC (.int 3)) (semCons (semC (.int 5)) (semCons (sem1 opNeg (semC (.int 1))) (semCons (sem2 opPow (semC (.int 10)) (semC (.int 30))) (semCons (semC (.str "")) (semCons (semC (.str "a")) (semCons (semC (.str "rows")) (semCons (semC (.str "back")) (semCons (semC (.str "ab")) (semCons (semTup semNil) (semCons (semLst semNil) (semCons (semTup (semCons (semC (.str "a")) (semCons (semC (.str "b")) semNil))) (semCons (semTup (semCons (semC (.int 0)) (semCons (semC (.int 1)) semNil))) semNil)))))))))))))))))))) (gNm 1)) (sRet (semCall (fun ds S => if ds.length = 2 then g__law_pick ds S else .no) (semCons (semVar 0) (semCons (sem2 opAdd (semVar 1) (semLst (semCons (semTup (semCons (semC (.str "rows")) (semCons (semC (.str "back")) semNil))) (semCons (semTup (semCons (semC (.str "slices")) (semCons (semC (.str "turn")) (semCons (semC (.int 1)) (semCons (semC (.int 0)) semNil))))) (semCons (semTup (semCons (semTup (semCons (semC (.str "a")) (semCons (semC (.str "b")) semNil))) (semCons (semTup semNil) semNil))) (semCons (semC (.str "aa")) semNil)))))) semNil)))))
noncomputable def g__law_odd : List D → Sto → R D := semFn 2 sem__law_odd
/-- _law_bent, its own calls by self -/
noncomputable def sem__law_bent (self : List D → Sto → R D) : SemS := (sSeq (sIf (semOr (sem1 opNot (semCall bIsi (semCons (semVar 1) (semCons (semC (.ty .tuple)) semNil)))) (semOr (sem2 opEq (semVar 1) (semTup semNil)) (sem2 opEq (semCall (fun ds S => if ds.length = 2 then g__law_saw ds S else .no) (semCons (semVar 0) (semCons (semC (.int 8)) semNil))) (semC (.int 0))))) (sSeq (sIf (semAnd (semCall bIsi (semCons (semVar 1) (semCons (semC (.ty .int)) semNil))) (semAnd (sem1 opNot (semCall bIsi (semCons (semVar 1) (semCons (semC (.ty .bool)) semNil)))) (sem2 opGt (semCall (fun ds S => if ds.length = 2 then g__law_saw ds S else .no) (semCons (semVar 0) (semCons (semC (.int 3)) semNil))) (semC (.int 0))))) (sRet (sem2 opAdd (semVar 1) (semCall (fun ds S => if ds.length = 2 then g__law_pick ds S else .no) (semCons (semVar 0) (semCons (semLst (semCons (sem1 opNeg (semC (.int 1))) (semCons (semC (.int 1)) (semCons (semC (.int 1)) (semCons (semC (.int 2)) (semCons (sem1 opNeg (semC (.int 4))) semNil)))))) semNil))))) sNil) (sRet (semCall (fun ds S => if ds.length = 1 then g__law_odd ds S else .no) (semCons (semVar 0) semNil)))) sNil) (sSeq (sPar [2, 3] (semCons (semCall (fun ds S => if ds.length = 2 then g__law_saw ds S else .no) (semCons (semVar 0) (semCons (semCall bLen (semCons (semVar 1) semNil)) semNil))) (semCons (semCall (fun ds S => if ds.length = 2 then g__law_saw ds S else .no) (semCons (semVar 0) (semCons (semC (.int 11)) semNil))) semNil))) (sSeq (sIf (sem2 opEq (semVar 3) (semC (.int 0))) (sRet (sem2 opAdd (semSl (semVar 1) .no (.e (semVar 2))) (semSl (semVar 1) (.e (sem2 opAdd (semVar 2) (semC (.int 1)))) .no))) sNil) (sSeq (sIf (sem2 opEq (semVar 3) (semC (.int 1))) (sRet (sem2 opAdd (semSl (semVar 1) .no (.e (sem2 opAdd (semVar 2) (semC (.int 1))))) (semSl (semVar 1) (.e (semVar 2)) .no))) sNil) (sSeq (sIf (sem2 opEq (semVar 3) (semC (.int 2))) (sRet (sem2 opAdd (sem2 opAdd (semSl (semVar 1) .no (.e (semVar 2))) (semTup (semCons (semCall (fun ds S => if ds.length = 1 then g__law_odd ds S else .no) (semCons (semVar 0) semNil)) semNil))) (semSl (semVar 1) (.e (semVar 2)) .no))) sNil) (sSeq (sIf (sem2 opEq (semVar 3) (semC (.int 3))) (sRet (semCall bList (semCons (semVar 1) semNil))) sNil) (sRet (sem2 opAdd (sem2 opAdd (semSl (semVar 1) .no (.e (semVar 2))) (semTup (semCons (semCall (fun ds S => if ds.length = 2 then self ds S else .no) (semCons (semVar 0) (semCons (sem2 opIx (semVar 1) (semVar 2)) semNil))) semNil))) (semSl (semVar 1) (.e (sem2 opAdd (semVar 2) (semC (.int 1)))) .no)))))))))
/-- n calls deep -/
noncomputable def g__law_bent_ : Nat → List D → Sto → R D
  | 0 => fun _ _ => .no
  | n + 1 => semFn 4 (sem__law_bent (g__law_bent_ n))
noncomputable def g__law_bent : List D → Sto → R D := g__law_bent_ 12
noncomputable def sem_need_number : SemS := (sIf (sem1 opNot (semCall (fun ds S => if ds.length = 3 then g_is_number ds S else .no) (semCons (semVar 0) (semCons (semVar 1) (semCons (semVar 2) semNil))))) (sRaise "InvalidNumber") sNil)
noncomputable def g_need_number : List D → Sto → R D := semFn 3 sem_need_number
noncomputable def sem_rolled : SemS := (sSeq (sAsg (sem2 opMod (semVar 1) (semCall bLen (semCons (semVar 0) semNil))) (gNm 2)) (sRet (sem2 opAdd (semSl (semVar 0) (.e (sem2 opSub (semCall bLen (semCons (semVar 0) semNil)) (semVar 2))) .no) (semSl (semVar 0) .no (.e (sem2 opSub (semCall bLen (semCons (semVar 0) semNil)) (semVar 2)))))))
noncomputable def g_rolled : List D → Sto → R D := semFn 3 sem_rolled
noncomputable def sem_columns_of : SemS := (sRet (semLc finD (semArg bRange1 (semCons (semCall bLen (semCons (sem2 opIx (semVar 0) (semC (.int 0))) semNil)) semNil)) [1] (gNm 1) (semC (.bl true)) (semJoin (semC (.str "")) (semLc finD (semItems (semVar 0)) [2] (gNm 2) (semC (.bl true)) (sem2 opIx (semVar 2) (semVar 1))))))
noncomputable def g_columns_of : List D → Sto → R D := semFn 3 sem_columns_of
noncomputable def sem_from_columns : SemS := (sRet (semCall bTuple (semCons (semLc finD (semArg bRange1 (semCons (semCall bLen (semCons (sem2 opIx (semVar 0) (semC (.int 0))) semNil)) semNil)) [1] (gNm 1) (semC (.bl true)) (semJoin (semC (.str "")) (semLc finD (semItems (semVar 0)) [2] (gNm 2) (semC (.bl true)) (sem2 opIx (semVar 2) (semVar 1))))) semNil)))
noncomputable def g_from_columns : List D → Sto → R D := semFn 3 sem_from_columns
noncomputable def sem_done_to : SemS := (sSeq (sAsg (sem2 opIx (semVar 1) (semC (.int 1))) (gNm 2)) (sSeq (sIf (sem2 opEq (semVar 2) (semC (.str "back"))) (sRet (sem1 opRev (semVar 0))) sNil) (sSeq (sIf (sem2 opEq (semVar 2) (semC (.str "roll"))) (sSeq (sAsg (sem2 opMod (sem2 opIx (semVar 1) (semC (.int 2))) (semCall bLen (semCons (semVar 0) semNil))) (gNm 3)) (sRet (sem2 opAdd (semSl (semVar 0) (.e (sem2 opSub (semCall bLen (semCons (semVar 0) semNil)) (semVar 3))) .no) (semSl (semVar 0) .no (.e (sem2 opSub (semCall bLen (semCons (semVar 0) semNil)) (semVar 3))))))) sNil) (sSeq (sIf (sem2 opEq (semVar 2) (semC (.str "shift"))) (sRet (semLc finD (semArg bEnumL (semCons (semVar 0) semNil)) [3, 4] (gTp [3, 4]) (semC (.bl true)) (semCall (fun ds S => if ds.length = 2 then g_rolled ds S else .no) (semCons (semVar 4) (semCons (sem2 opMul (sem2 opIx (semVar 1) (semC (.int 2))) (semVar 3)) semNil))))) sNil) (sRet (semLc finD (semArg bEnumL (semCons (semVar 0) semNil)) [3, 4] (gTp [3, 4]) (semC (.bl true)) (semIte (sem2 opEq (sem2 opMod (semVar 3) (sem2 opIx (semVar 1) (semC (.int 2)))) (sem2 opIx (semVar 1) (semC (.int 3)))) (sem1 opRev (semVar 4)) (semVar 4))))))))
noncomputable def g_done_to : List D → Sto → R D := semFn 5 sem_done_to
noncomputable def sem_behind : SemS := (sSeq (sIf (sem2 opEq (sem2 opIx (semVar 1) (semC (.int 0))) (semC (.str "rows"))) (sRet (semCall bTuple (semCons (semCall (fun ds S => if ds.length = 2 then g_done_to ds S else .no) (semCons (semCall bList (semCons (semVar 0) semNil)) (semCons (semVar 1) semNil))) semNil))) sNil) (sRet (semCall (fun ds S => if ds.length = 1 then g_from_columns ds S else .no) (semCons (semCall (fun ds S => if ds.length = 2 then g_done_to ds S else .no) (semCons (semCall (fun ds S => if ds.length = 1 then g_columns_of ds S else .no) (semCons (semVar 0) semNil)) (semCons (semVar 1) semNil))) semNil))))
noncomputable def g_behind : List D → Sto → R D := semFn 2 sem_behind
noncomputable def sem_strips : SemS := (sRet (semCall bTuple (semCons (semLc finD (semItems (semVar 0)) [2] (gNm 2) (semC (.bl true)) (sem2 opMul (semVar 2) (semVar 1))) semNil)))
noncomputable def g_strips : List D → Sto → R D := semFn 3 sem_strips
noncomputable def sem_board_of : SemS := (sSeq (sAsg (semCall (fun ds S => if ds.length = 2 then g_strips ds S else .no) (semCons (sem2 opIx (semVar 0) (semC (.int 0))) (semCons (semVar 1) semNil))) (gNm 2)) (sSeq (sFor (semItems (sem2 opIx (semVar 0) (semC (.int 1)))) (gNm 3) (sAsg (semCall (fun ds S => if ds.length = 2 then g_behind ds S else .no) (semCons (semVar 2) (semCons (semVar 3) semNil))) (gNm 2))) (sRet (semVar 2))))
noncomputable def g_board_of : List D → Sto → R D := semFn 4 sem_board_of
noncomputable def sem_board : SemS := (sSeq (sExpr (semCall (fun ds S => if ds.length = 1 then g_need_plan ds S else .no) (semCons (semVar 0) semNil))) (sSeq (sExpr (semCall (fun ds S => if ds.length = 3 then g_need_number ds S else .no) (semCons (semVar 1) (semCons (semC (.int 1)) (semCons (semC (.int (60))) semNil))))) (sRet (semCall (fun ds S => if ds.length = 2 then g_board_of ds S else .no) (semCons (semVar 0) (semCons (semVar 1) semNil))))))
noncomputable def g_board : List D → Sto → R D := semFn 2 sem_board
noncomputable def sem_stages : SemS := (sSeq (sExpr (semCall (fun ds S => if ds.length = 1 then g_need_plan ds S else .no) (semCons (semVar 0) semNil))) (sSeq (sExpr (semCall (fun ds S => if ds.length = 3 then g_need_number ds S else .no) (semCons (semVar 1) (semCons (semC (.int 1)) (semCons (semC (.int (60))) semNil))))) (sRet (semLc finO (semArg bRange1 (semCons (sem2 opAdd (semCall bLen (semCons (sem2 opIx (semVar 0) (semC (.int 1))) semNil)) (semC (.int 1))) semNil)) [2] (gNm 2) (semC (.bl true)) (semCall (fun ds S => if ds.length = 2 then g_board_of ds S else .no) (semCons (semTup (semCons (sem2 opIx (semVar 0) (semC (.int 0))) (semCons (semSl (sem2 opIx (semVar 0) (semC (.int 1))) .no (.e (semVar 2))) semNil))) (semCons (semVar 1) semNil)))))))
noncomputable def g_stages : List D → Sto → R D := semFn 3 sem_stages
noncomputable def sem_source : SemS := (sSeq (sFor (semItems (sem1 opRev (semVar 1))) (gNm 5) (sSeq (sPar [6, 7] (semCons (sem2 opIx (semVar 5) (semC (.int 0))) (semCons (sem2 opIx (semVar 5) (semC (.int 1))) semNil))) (sIf (semOr (semAnd (sem2 opEq (semVar 7) (semC (.str "back"))) (sem2 opEq (semVar 6) (semC (.str "rows")))) (semAnd (sem2 opEq (semVar 7) (semC (.str "turn"))) (semAnd (sem2 opEq (semVar 6) (semC (.str "slices"))) (sem2 opEq (sem2 opMod (semVar 4) (sem2 opIx (semVar 5) (semC (.int 2)))) (sem2 opIx (semVar 5) (semC (.int 3))))))) (sAsg (sem2 opSub (sem2 opSub (semVar 0) (semC (.int 1))) (semVar 3)) (gNm 3)) (sIf (semOr (semAnd (sem2 opEq (semVar 7) (semC (.str "back"))) (sem2 opEq (semVar 6) (semC (.str "slices")))) (semAnd (sem2 opEq (semVar 7) (semC (.str "turn"))) (semAnd (sem2 opEq (semVar 6) (semC (.str "rows"))) (sem2 opEq (sem2 opMod (semVar 3) (sem2 opIx (semVar 5) (semC (.int 2)))) (sem2 opIx (semVar 5) (semC (.int 3))))))) (sAsg (sem2 opSub (sem2 opSub (semVar 2) (semC (.int 1))) (semVar 4)) (gNm 4)) (sIf (semAnd (sem2 opEq (semVar 7) (semC (.str "roll"))) (sem2 opEq (semVar 6) (semC (.str "rows")))) (sAsg (sem2 opMod (sem2 opSub (semVar 3) (sem2 opIx (semVar 5) (semC (.int 2)))) (semVar 0)) (gNm 3)) (sIf (sem2 opEq (semVar 7) (semC (.str "roll"))) (sAsg (sem2 opMod (sem2 opSub (semVar 4) (sem2 opIx (semVar 5) (semC (.int 2)))) (semVar 2)) (gNm 4)) (sIf (semAnd (sem2 opEq (semVar 7) (semC (.str "shift"))) (sem2 opEq (semVar 6) (semC (.str "rows")))) (sAsg (sem2 opMod (sem2 opSub (semVar 4) (sem2 opMul (sem2 opIx (semVar 5) (semC (.int 2))) (semVar 3))) (semVar 2)) (gNm 4)) (sIf (sem2 opEq (semVar 7) (semC (.str "shift"))) (sAsg (sem2 opMod (sem2 opSub (semVar 3) (sem2 opMul (sem2 opIx (semVar 5) (semC (.int 2))) (semVar 4))) (semVar 0)) (gNm 3)) sNil)))))))) (sRet (semVar 3)))
noncomputable def g_source : List D → Sto → R D := semFn 8 sem_source
noncomputable def sem_common : SemS := (sSeq (sPar [2, 3] (semCons (semVar 0) (semCons (semVar 1) semNil))) (sSeq (sWhile (sem2 opNe (semVar 3) (semC (.int 0))) (sPar [2, 3] (semCons (semVar 3) (semCons (sem2 opMod (semVar 2) (semVar 3)) semNil)))) (sRet (sem2 opDiv (sem2 opMul (semVar 0) (semVar 1)) (semVar 2)))))
noncomputable def g_common : List D → Sto → R D := semFn 4 sem_common
noncomputable def sem_period_of : SemS := (sSeq (sAsg (semC (.int 1)) (gNm 2)) (sSeq (sFor (semItems (semVar 1)) (gNm 3) (sSeq (sIf (semAnd (sem2 opEq (sem2 opIx (semVar 3) (semC (.int 0))) (semC (.str "slices"))) (sem2 opEq (sem2 opIx (semVar 3) (semC (.int 1))) (semC (.str "turn")))) (sAsg (semCall (fun ds S => if ds.length = 2 then g_common ds S else .no) (semCons (semVar 2) (semCons (sem2 opIx (semVar 3) (semC (.int 2))) semNil))) (gNm 2)) sNil) (sIf (semAnd (sem2 opEq (sem2 opIx (semVar 3) (semC (.int 0))) (semC (.str "slices"))) (sem2 opEq (sem2 opIx (semVar 3) (semC (.int 1))) (semC (.str "shift")))) (sAsg (semCall (fun ds S => if ds.length = 2 then g_common ds S else .no) (semCons (semVar 2) (semCons (semVar 0) semNil))) (gNm 2)) sNil))) (sRet (semVar 2))))
noncomputable def g_period_of : List D → Sto → R D := semFn 4 sem_period_of
noncomputable def sem_reach_of : SemS := (sSeq (sAsg (semC (.int 0)) (gNm 2)) (sSeq (sFor (semItems (semVar 1)) (gNm 3) (sSeq (sIf (sem2 opEq (semSl (semVar 3) .no (.e (semC (.int 2)))) (semTup (semCons (semC (.str "slices")) (semCons (semC (.str "roll")) semNil)))) (sAsg (sem2 opAdd (semVar 2) (semCall bAbs (semCons (sem2 opIx (semVar 3) (semC (.int 2))) semNil))) (gNm 2)) sNil) (sIf (sem2 opEq (semSl (semVar 3) .no (.e (semC (.int 2)))) (semTup (semCons (semC (.str "rows")) (semCons (semC (.str "shift")) semNil)))) (sAsg (sem2 opAdd (semVar 2) (sem2 opMul (semCall bAbs (semCons (sem2 opIx (semVar 3) (semC (.int 2))) semNil)) (sem2 opSub (semVar 0) (semC (.int 1))))) (gNm 2)) sNil))) (sRet (semVar 2))))
noncomputable def g_reach_of : List D → Sto → R D := semFn 4 sem_reach_of
noncomputable def sem_part_of : SemS := (sSeq (sIf (sem2 opLt (semVar 1) (semVar 2)) (sRet (semTup (semCons (semC (.int 1)) (semCons (semVar 1) semNil)))) sNil) (sSeq (sIf (sem2 opGe (semVar 1) (sem2 opSub (semVar 0) (semVar 2))) (sRet (semTup (semCons (semC (.int 2)) (semCons (sem2 opSub (sem2 opSub (semVar 0) (semC (.int 1))) (semVar 1)) semNil)))) sNil) (sRet (semTup (semCons (semC (.int 0)) (semCons (semVar 1) semNil))))))
noncomputable def g_part_of : List D → Sto → R D := semFn 3 sem_part_of
noncomputable def sem_slot_of : SemS := (sSeq (sAsg (semCall (fun ds S => if ds.length = 3 then g_part_of ds S else .no) (semCons (semVar 0) (semCons (semVar 2) (semCons (semVar 4) semNil)))) (gTp [5, 6])) (sRet (semTup (semCons (semVar 5) (semCons (sem2 opMod (semVar 0) (semVar 3)) (semCons (semVar 1) (semCons (semIte (sem2 opGt (semVar 5) (semC (.int 0))) (semVar 6) (sem2 opMod (semVar 6) (semVar 3))) semNil)))))))
noncomputable def g_slot_of : List D → Sto → R D := semFn 7 sem_slot_of
noncomputable def sem_strips_up_to : SemS := (sSeq (sAsg semNewT (gNm 3)) (sSeq (sFor (semArg bRange2 (semCons (semC (.int 1)) (semCons (sem2 opAdd (semVar 2) (semC (.int 1))) semNil))) (gNm 4) (sFor (semArg bRange1 (semCons (semVar 0) semNil)) (gNm 5) (sFor (semArg bRange1 (semCons (semVar 4) semNil)) (gNm 6) (sSub (semCall (fun ds S => if ds.length = 5 then g_source ds S else .no) (semCons (semVar 0) (semCons (semVar 1) (semCons (semVar 4) (semCons (semVar 5) (semCons (semVar 6) semNil)))))) (semVar 3) (semTup (semCons (semVar 4) (semCons (semVar 5) (semCons (semVar 6) semNil)))))))) (sRet (semVar 3))))
noncomputable def g_strips_up_to : List D → Sto → R D := semFn 7 sem_strips_up_to
noncomputable def sem_slots_with : SemS := (sSeq (sAsg semNewK (gNm 3)) (sSeq (sFor (semItems (semVar 0)) (gTp [4, 5, 6]) (sIf (sem2 opGe (semVar 4) (sem2 opMul (semC (.int 2)) (semVar 2))) (sSeq (sAsg (semCall (fun ds S => if ds.length = 5 then g_slot_of ds S else .no) (semCons (semVar 4) (semCons (semVar 5) (semCons (semVar 6) (semCons (semVar 1) (semCons (semVar 2) semNil)))))) (gNm 7)) (sSeq (sIf (sem2 opNe (semGet2 (semVar 3) (semVar 7) (sem2 opDGet (semVar 0) (semTup (semCons (semVar 4) (semCons (semVar 5) (semCons (semVar 6) semNil)))))) (sem2 opDGet (semVar 0) (semTup (semCons (semVar 4) (semCons (semVar 5) (semCons (semVar 6) semNil)))))) (sRet (semC .non)) sNil) (sSub (sem2 opDGet (semVar 0) (semTup (semCons (semVar 4) (semCons (semVar 5) (semCons (semVar 6) semNil))))) (semVar 3) (semVar 7)))) sNil)) (sRet (semVar 3))))
noncomputable def g_slots_with : List D → Sto → R D := semFn 8 sem_slots_with
noncomputable def sem_table_with : SemS := (sSeq (sAsg (semTup semNil) (gNm 5)) (sSeq (sFor (semArg bRange1 (semCons (semVar 2) semNil)) (gNm 6) (sSeq (sAsg (semTup semNil) (gNm 7)) (sSeq (sFor (semArg bRange1 (semCons (semVar 1) semNil)) (gNm 8) (sAsg (sem2 opAdd (semVar 7) (semTup (semCons (semCall bTuple (semCons (semLc finD (semArg bRange1 (semCons (semVar 4) semNil)) [9] (gNm 9) (semC (.bl true)) (sem2 opDGet (semVar 0) (semTup (semCons (semVar 3) (semCons (semVar 6) (semCons (semVar 8) (semCons (semVar 9) semNil))))))) semNil)) semNil))) (gNm 7))) (sAsg (sem2 opAdd (semVar 5) (semTup (semCons (semVar 7) semNil))) (gNm 5))))) (sRet (semVar 5))))
noncomputable def g_table_with : List D → Sto → R D := semFn 10 sem_table_with
noncomputable def sem_form_of : SemS := (sSeq (sPar [6, 7] (semCons (semCall (fun ds S => if ds.length = 2 then g_period_of ds S else .no) (semCons (semVar 0) (semCons (semVar 1) semNil))) (semCons (semCall (fun ds S => if ds.length = 2 then g_reach_of ds S else .no) (semCons (semVar 0) (semCons (semVar 1) semNil))) semNil))) (sSeq (sAsg (semCall (fun ds S => if ds.length = 3 then g_strips_up_to ds S else .no) (semCons (semVar 0) (semCons (semVar 1) (semCons (sem2 opAdd (sem2 opMul (semC (.int 2)) (semVar 7)) (sem2 opMul (semC (.int 2)) (semVar 6))) semNil)))) (gNm 2)) (sSeq (sPar [8, 4] (semCons (semC (.int 0)) (semCons (semCall (fun ds S => if ds.length = 3 then g_slots_with ds S else .no) (semCons (semVar 2) (semCons (semVar 6) (semCons (semC (.int 0)) semNil)))) semNil))) (sSeq (sWhile (sem2 opIs (semVar 4) (semC .non)) (sSeq (sAsg (sem2 opAdd (semVar 8) (semC (.int 1))) (gNm 8)) (sAsg (semCall (fun ds S => if ds.length = 3 then g_slots_with ds S else .no) (semCons (semVar 2) (semCons (semVar 6) (semCons (semVar 8) semNil)))) (gNm 4)))) (sSeq (sAsg (semC (.int 1)) (gNm 3)) (sSeq (sWhile (semOr (sem2 opNe (sem2 opMod (semVar 6) (semVar 3)) (semC (.int 0))) (sem2 opIs (semCall (fun ds S => if ds.length = 3 then g_slots_with ds S else .no) (semCons (semVar 2) (semCons (semVar 3) (semCons (semVar 8) semNil)))) (semC .non))) (sAsg (sem2 opAdd (semVar 3) (semC (.int 1))) (gNm 3))) (sSeq (sAsg (semCall (fun ds S => if ds.length = 3 then g_slots_with ds S else .no) (semCons (semVar 2) (semCons (semVar 3) (semCons (semVar 8) semNil)))) (gNm 4)) (sSeq (sAsg (semCall (fun ds S => if ds.length = 5 then g_table_with ds S else .no) (semCons (semVar 4) (semCons (semVar 0) (semCons (semVar 3) (semCons (semC (.int 0)) (semCons (semVar 3) semNil)))))) (gNm 5)) (sRet (semTup (semCons (semVar 3) (semCons (semVar 8) (semCons (semVar 5) (semCons (semCall (fun ds S => if ds.length = 5 then g_table_with ds S else .no) (semCons (semVar 4) (semCons (semVar 0) (semCons (semVar 3) (semCons (semC (.int 1)) (semCons (semVar 8) semNil)))))) (semCons (semCall (fun ds S => if ds.length = 5 then g_table_with ds S else .no) (semCons (semVar 4) (semCons (semVar 0) (semCons (semVar 3) (semCons (semC (.int 2)) (semCons (semVar 8) semNil)))))) semNil)))))))))))))))
noncomputable def g_form_of : List D → Sto → R D := semFn 9 sem_form_of
noncomputable def sem_strip_by : SemS := (sSeq (sAsg (semCall (fun ds S => if ds.length = 5 then g_slot_of ds S else .no) (semCons (semVar 1) (semCons (semVar 2) (semCons (semVar 3) (semCons (sem2 opIx (semVar 0) (semC (.int 0))) (semCons (sem2 opIx (semVar 0) (semC (.int 1))) semNil)))))) (gTp [4, 5, 6, 7])) (sRet (sem2 opIx (sem2 opIx (sem2 opIx (sem2 opIx (semVar 0) (sem2 opAdd (semC (.int 2)) (semVar 4))) (semVar 5)) (semVar 6)) (semVar 7))))
noncomputable def g_strip_by : List D → Sto → R D := semFn 8 sem_strip_by
noncomputable def sem_form : SemS := (sSeq (sExpr (semCall (fun ds S => if ds.length = 1 then g_need_plan ds S else .no) (semCons (semVar 0) semNil))) (sRet (semCall (fun ds S => if ds.length = 2 then g_form_of ds S else .no) (semCons (semCall bLen (semCons (sem2 opIx (semVar 0) (semC (.int 0))) semNil)) (semCons (sem2 opIx (semVar 0) (semC (.int 1))) semNil)))))
noncomputable def g_form : List D → Sto → R D := semFn 1 sem_form
noncomputable def sem_by_form : SemS := (sSeq (sExpr (semCall (fun ds S => if ds.length = 1 then g_need_plan ds S else .no) (semCons (semVar 0) semNil))) (sSeq (sAsg (semCall (fun ds S => if ds.length = 2 then g_form_of ds S else .no) (semCons (semCall bLen (semCons (sem2 opIx (semVar 0) (semC (.int 0))) semNil)) (semCons (sem2 opIx (semVar 0) (semC (.int 1))) semNil))) (gNm 2)) (sSeq (sIf (sem1 opNot (semCall (fun ds S => if ds.length = 3 then g_is_number ds S else .no) (semCons (semVar 1) (semCons (semCall bMax (semCons (semC (.int 1)) (semCons (sem2 opMul (semC (.int 2)) (sem2 opIx (semVar 2) (semC (.int 1)))) semNil))) (semCons (semC (.int 60)) semNil))))) (sRaise "InvalidNumber") sNil) (sSeq (sAsg (semLstO semNil) (gNm 3)) (sSeq (sFor (semArg bRange1 (semCons (semCall bLen (semCons (sem2 opIx (semVar 0) (semC (.int 0))) semNil)) semNil)) (gNm 4) (sExpr (semApp (semVar 3) (semJoin (semC (.str "")) (semLc finD (semArg bRange1 (semCons (semVar 1) semNil)) [5] (gNm 5) (semC (.bl true)) (sem2 opIx (sem2 opIx (semVar 0) (semC (.int 0))) (semCall (fun ds S => if ds.length = 4 then g_strip_by ds S else .no) (semCons (semVar 2) (semCons (semVar 1) (semCons (semVar 4) (semCons (semVar 5) semNil))))))))))) (sRet (semCall bTuple (semCons (semVar 3) semNil))))))))
noncomputable def g_by_form : List D → Sto → R D := semFn 6 sem_by_form
noncomputable def sem__law_source : SemS := (sSeq (sAsg (semCall bLen (semCons (sem2 opIx (semVar 0) (semC (.int 0))) semNil)) (gNm 4)) (sSeq (sFor (semItems (sem1 opRev (sem2 opIx (semVar 0) (semC (.int 1))))) (gNm 5) (sSeq (sAsg (sem2 opIx (semVar 5) (semC (.int 1))) (gNm 6)) (sSeq (sAsg (semIte (sem2 opIn (semVar 6) (semTup (semCons (semC (.str "turn")) (semCons (semC (.str "back")) semNil)))) (semVar 5) (sem2 opAdd (semSl (semVar 5) .no (.e (semC (.int 2)))) (semTup (semCons (sem1 opNeg (sem2 opIx (semVar 5) (semC (.int 2)))) semNil)))) (gNm 7)) (sAsg (semCall (fun ds S => if ds.length = 5 then g__law_goal ds S else .no) (semCons (semVar 4) (semCons (semVar 1) (semCons (semVar 7) (semCons (semVar 2) (semCons (semVar 3) semNil)))))) (gTp [2, 3]))))) (sRet (semVar 2))))
noncomputable def g__law_source : List D → Sto → R D := semFn 8 sem__law_source
noncomputable def sem__law_bounds : SemS := (sSeq (sAsg (semTup (semCons (semC (.int 1)) (semCons (semC (.int 0)) semNil))) (gTp [2, 3])) (sSeq (sFor (semItems (sem2 opIx (semVar 0) (semC (.int 1)))) (gNm 1) (sSeq (sIf (semOr (semAnd (sem2 opEq (sem2 opIx (semVar 1) (semC (.int 0))) (semC (.str "slices"))) (sem2 opEq (sem2 opIx (semVar 1) (semC (.int 1))) (semC (.str "turn")))) (sem2 opEq (semSl (semVar 1) .no (.e (semC (.int 2)))) (semTup (semCons (semC (.str "slices")) (semCons (semC (.str "shift")) semNil))))) (sSeq (sAsg (semIte (sem2 opEq (sem2 opIx (semVar 1) (semC (.int 1))) (semC (.str "turn"))) (sem2 opIx (semVar 1) (semC (.int 2))) (semCall bLen (semCons (sem2 opIx (semVar 0) (semC (.int 0))) semNil))) (gNm 4)) (sAsg (semCall bMin (semCons (semLc finD (semArg bRange2 (semCons (semVar 2) (semCons (sem2 opMul (semC (.int 13)) (semVar 2)) semNil))) [5] (gNm 5) (semAnd (sem2 opEq (sem2 opMod (semVar 5) (semVar 2)) (semC (.int 0))) (sem2 opEq (sem2 opMod (semVar 5) (semVar 4)) (semC (.int 0)))) (semVar 5)) semNil)) (gNm 2))) sNil) (sSeq (sIf (sem2 opEq (semSl (semVar 1) .no (.e (semC (.int 2)))) (semTup (semCons (semC (.str "slices")) (semCons (semC (.str "roll")) semNil)))) (sAsg (sem2 opAdd (semVar 3) (semCall bAbs (semCons (sem2 opIx (semVar 1) (semC (.int 2))) semNil))) (gNm 3)) sNil) (sIf (sem2 opEq (semSl (semVar 1) .no (.e (semC (.int 2)))) (semTup (semCons (semC (.str "rows")) (semCons (semC (.str "shift")) semNil)))) (sAsg (sem2 opAdd (semVar 3) (sem2 opMul (semCall bAbs (semCons (sem2 opIx (semVar 1) (semC (.int 2))) semNil)) (sem2 opSub (semCall bLen (semCons (sem2 opIx (semVar 0) (semC (.int 0))) semNil)) (semC (.int 1))))) (gNm 3)) sNil)))) (sRet (semTup (semCons (semVar 2) (semCons (semVar 3) semNil))))))
noncomputable def g__law_bounds : List D → Sto → R D := semFn 6 sem__law_bounds
noncomputable def sem_need_row : SemS := (sIf (sem1 opNot (semCall (fun ds S => if ds.length = 3 then g_is_number ds S else .no) (semCons (semVar 1) (semCons (semC (.int 0)) (semCons (sem2 opSub (semCall bLen (semCons (sem2 opIx (semVar 0) (semC (.int 0))) semNil)) (semC (.int 1))) semNil))))) (sRaise "InvalidPlace") sNil)
noncomputable def g_need_row : List D → Sto → R D := semFn 2 sem_need_row
noncomputable def sem_column_at : SemS := (sSeq (sIf (sem1 opNot (semCall (fun ds S => if ds.length = 3 then g_is_number ds S else .no) (semCons (semVar 1) (semCons (sem1 opNeg (semVar 0)) (semCons (sem2 opSub (semVar 0) (semC (.int 1))) semNil))))) (sRaise "InvalidPlace") sNil) (sRet (semIte (sem2 opGe (semVar 1) (semC (.int 0))) (semVar 1) (sem2 opAdd (semVar 1) (semVar 0)))))
noncomputable def g_column_at : List D → Sto → R D := semFn 2 sem_column_at
noncomputable def sem_need_wood : SemS := (sIf (semOr (sem1 opNot (semCall bIsi (semCons (semVar 1) (semCons (semC (.ty .str)) semNil)))) (sem2 opNotIn (semVar 1) (sem2 opIx (semVar 0) (semC (.int 0))))) (sRaise "InvalidPlace") sNil)
noncomputable def g_need_wood : List D → Sto → R D := semFn 2 sem_need_wood
noncomputable def sem_is_clean : SemS := (sSeq (sFor (semItems (semTup (semCons (semCall bList (semCons (semVar 0) semNil)) (semCons (semCall (fun ds S => if ds.length = 1 then g_columns_of ds S else .no) (semCons (semVar 0) semNil)) semNil)))) (gNm 1) (sFor (semItems (semVar 1)) (gNm 2) (sIf (semCall bAny (semCons (semLc finD (semArg bZipS (semCons (semVar 2) (semCons (semSl (semVar 2) (.e (semC (.int 1))) .no) semNil))) [3, 4] (gTp [3, 4]) (semC (.bl true)) (sem2 opEq (semVar 3) (semVar 4))) semNil)) (sRet (semC (.bl false))) sNil))) (sRet (semC (.bl true))))
noncomputable def g_is_clean : List D → Sto → R D := semFn 5 sem_is_clean
-- is_so_with: call set
-- truths: its callees
noncomputable def sem_shorter : SemS := (sSeq (sWhile (semAnd (sem2 opNe (semVar 0) (semLst semNil)) (sem2 opEq (sem2 opIx (semVar 0) (sem1 opNeg (semC (.int 1)))) (sem2 opIx (semVar 1) (sem1 opNeg (semC (.int 1)))))) (sPar [0, 1] (semCons (semSl (semVar 0) .no (.e (sem1 opNeg (semC (.int 1))))) (semCons (sem2 opAdd (semSl (semVar 1) (.e (sem1 opNeg (semC (.int 1)))) .no) (semSl (semVar 1) .no (.e (sem1 opNeg (semC (.int 1)))))) semNil)))) (sRet (semTup (semCons (semCall bTuple (semCons (semVar 0) semNil)) (semCons (semCall bTuple (semCons (semVar 1) semNil)) semNil)))))
noncomputable def g_shorter : List D → Sto → R D := semFn 2 sem_shorter
noncomputable def sem_folded : SemS := (sSeq (sAsg (semSl (semVar 0) (.e (sem2 opSub (semCall bLen (semCons (semVar 0) semNil)) (semVar 1))) .no) (gNm 2)) (sSeq (sFor (semArg bRange2 (semCons (semC (.int 1)) (semCons (sem2 opAdd (semVar 1) (semC (.int 1))) semNil))) (gNm 3) (sIf (semAnd (sem2 opEq (sem2 opMod (semVar 1) (semVar 3)) (semC (.int 0))) (sem2 opEq (semVar 2) (sem2 opMul (semSl (semVar 2) .no (.e (semVar 3))) (sem2 opDiv (semVar 1) (semVar 3))))) (sSeq (sAsg (semSl (semVar 0) .no (.e (sem2 opSub (semCall bLen (semCons (semVar 0) semNil)) (semVar 1)))) (gNm 4)) (sRet (semCall (fun ds S => if ds.length = 2 then g_shorter ds S else .no) (semCons (semVar 4) (semCons (semSl (semVar 2) .no (.e (semVar 3))) semNil))))) sNil)) (sRet (semTup (semCons (semCall bTuple (semCons (semVar 0) semNil)) (semCons (semTup (semCons (semC (.bl false)) semNil)) semNil))))))
noncomputable def g_folded : List D → Sto → R D := semFn 5 sem_folded
-- calendar_of: its callees
noncomputable def sem_need_word : SemS := (sIf (semOr (sem1 opNot (semCall bIsi (semCons (semVar 0) (semCons (semC (.ty .str)) semNil)))) (sem2 opNotIn (semVar 0) (semC (tupS ["clean", "first", "mirror", "plain"])))) (sRaise "InvalidWord") sNil)
noncomputable def g_need_word : List D → Sto → R D := semFn 1 sem_need_word
noncomputable def sem_told_by : SemS := (sSeq (sAsg (semVar 0) (gTp [2, 3])) (sSeq (sIf (sem2 opLe (semVar 1) (semCall bLen (semCons (semVar 2) semNil))) (sRet (sem2 opIx (semVar 2) (sem2 opSub (semVar 1) (semC (.int 1))))) sNil) (sRet (sem2 opIx (semVar 3) (sem2 opMod (sem2 opSub (sem2 opSub (semVar 1) (semC (.int 1))) (semCall bLen (semCons (semVar 2) semNil))) (semCall bLen (semCons (semVar 3) semNil)))))))
noncomputable def g_told_by : List D → Sto → R D := semFn 4 sem_told_by
-- calendar: its callees
-- first_number: its callees
noncomputable def sem__law_clean : SemS := (sSeq (sFor (semArg bRange1 (semCons (semCall bLen (semCons (semVar 0) semNil)) semNil)) (gNm 1) (sFor (semArg bRange1 (semCons (semCall bLen (semCons (sem2 opIx (semVar 0) (semC (.int 0))) semNil)) semNil)) (gNm 2) (sSeq (sIf (semAnd (sem2 opGt (semVar 2) (semC (.int 0))) (sem2 opEq (sem2 opIx (sem2 opIx (semVar 0) (semVar 1)) (semVar 2)) (sem2 opIx (sem2 opIx (semVar 0) (semVar 1)) (sem2 opSub (semVar 2) (semC (.int 1)))))) (sRet (semC (.bl false))) sNil) (sIf (semAnd (sem2 opGt (semVar 1) (semC (.int 0))) (sem2 opEq (sem2 opIx (sem2 opIx (semVar 0) (semVar 1)) (semVar 2)) (sem2 opIx (sem2 opIx (semVar 0) (sem2 opSub (semVar 1) (semC (.int 1)))) (semVar 2)))) (sRet (semC (.bl false))) sNil)))) (sRet (semC (.bl true))))
noncomputable def g__law_clean : List D → Sto → R D := semFn 3 sem__law_clean
noncomputable def sem_top_of : SemS := (sSeq (sAsg (semCall (fun ds S => if ds.length = 2 then g_common ds S else .no) (semCons (semCall (fun ds S => if ds.length = 2 then g_period_of ds S else .no) (semCons (semCall bLen (semCons (sem2 opIx (semVar 0) (semC (.int 0))) semNil)) (semCons (sem2 opIx (semVar 0) (semC (.int 1))) semNil))) (semCons (semCall (fun ds S => if ds.length = 2 then g_period_of ds S else .no) (semCons (semCall bLen (semCons (sem2 opIx (semVar 1) (semC (.int 0))) semNil)) (semCons (sem2 opIx (semVar 1) (semC (.int 1))) semNil))) semNil))) (gNm 2)) (sRet (sem2 opAdd (sem2 opMul (semC (.int 2)) (semCall bMax (semCons (semCall (fun ds S => if ds.length = 2 then g_reach_of ds S else .no) (semCons (semCall bLen (semCons (sem2 opIx (semVar 0) (semC (.int 0))) semNil)) (semCons (sem2 opIx (semVar 0) (semC (.int 1))) semNil))) (semCons (semCall (fun ds S => if ds.length = 2 then g_reach_of ds S else .no) (semCons (semCall bLen (semCons (sem2 opIx (semVar 1) (semC (.int 0))) semNil)) (semCons (sem2 opIx (semVar 1) (semC (.int 1))) semNil))) semNil)))) (sem2 opMul (semC (.int 2)) (semVar 2)))))
noncomputable def g_top_of : List D → Sto → R D := semFn 3 sem_top_of
noncomputable def sem_parted : SemS := (sSeq (sFor (semArg bRange2 (semCons (semC (.int 1)) (semCons (sem2 opAdd (semCall (fun ds S => if ds.length = 2 then g_top_of ds S else .no) (semCons (semVar 0) (semCons (semVar 1) semNil))) (semC (.int 1))) semNil))) (gNm 2) (sSeq (sPar [4, 5] (semCons (semCall (fun ds S => if ds.length = 2 then g_board_of ds S else .no) (semCons (semVar 0) (semCons (semVar 2) semNil))) (semCons (semCall (fun ds S => if ds.length = 2 then g_board_of ds S else .no) (semCons (semVar 1) (semCons (semVar 2) semNil))) semNil))) (sFor (semArg bRange1 (semCons (semCall bLen (semCons (semVar 4) semNil)) semNil)) (gNm 3) (sFor (semArg bRange1 (semCons (semVar 2) semNil)) (gNm 6) (sIf (sem2 opNe (sem2 opIx (sem2 opIx (semVar 4) (semVar 3)) (semVar 6)) (sem2 opIx (sem2 opIx (semVar 5) (semVar 3)) (semVar 6))) (sRet (semTup (semCons (semVar 2) (semCons (semVar 3) (semCons (semVar 6) semNil))))) sNil))))) (sRet (semC .non)))
noncomputable def g_parted : List D → Sto → R D := semFn 7 sem_parted
noncomputable def sem_turned : SemS := (sSeq (sIf (sem2 opIn (semVar 1) (semTup (semCons (semC (.str "both")) (semCons (semC (.str "over")) semNil)))) (sAsg (sem1 opRev (semVar 0)) (gNm 0)) sNil) (sRet (semIte (sem2 opIn (semVar 1) (semTup (semCons (semC (.str "both")) (semCons (semC (.str "ends")) semNil)))) (semCall bTuple (semCons (semLc finD (semItems (semVar 0)) [2] (gNm 2) (semC (.bl true)) (sem1 opRev (semVar 2))) semNil)) (semVar 0))))
noncomputable def g_turned : List D → Sto → R D := semFn 3 sem_turned
noncomputable def sem_need_both : SemS := (sSeq (sExpr (semCall (fun ds S => if ds.length = 1 then g_need_plan ds S else .no) (semCons (semVar 0) semNil))) (sSeq (sExpr (semCall (fun ds S => if ds.length = 1 then g_need_plan ds S else .no) (semCons (semVar 1) semNil))) (sIf (sem2 opNe (semCall bLen (semCons (sem2 opIx (semVar 0) (semC (.int 0))) semNil)) (semCall bLen (semCons (sem2 opIx (semVar 1) (semC (.int 0))) semNil))) (sRaise "Unlike") sNil)))
noncomputable def g_need_both : List D → Sto → R D := semFn 2 sem_need_both
noncomputable def sem_alike : SemS := (sSeq (sExpr (semCall (fun ds S => if ds.length = 2 then g_need_both ds S else .no) (semCons (semVar 0) (semCons (semVar 1) semNil)))) (sRet (sem2 opIs (semCall (fun ds S => if ds.length = 2 then g_parted ds S else .no) (semCons (semVar 0) (semCons (semVar 1) semNil))) (semC .non))))
noncomputable def g_alike : List D → Sto → R D := semFn 2 sem_alike
noncomputable def sem_parting : SemS := (sSeq (sExpr (semCall (fun ds S => if ds.length = 2 then g_need_both ds S else .no) (semCons (semVar 0) (semCons (semVar 1) semNil)))) (sRet (semCall (fun ds S => if ds.length = 2 then g_parted ds S else .no) (semCons (semVar 0) (semCons (semVar 1) semNil)))))
noncomputable def g_parting : List D → Sto → R D := semFn 2 sem_parting
noncomputable def sem_turns : SemS := (sSeq (sExpr (semCall (fun ds S => if ds.length = 2 then g_need_both ds S else .no) (semCons (semVar 0) (semCons (semVar 1) semNil)))) (sSeq (sAsg (semLstO semNil) (gNm 2)) (sSeq (sFor (semItems (semC (tupS ["both", "ends", "none", "over"]))) (gNm 3) (sSeq (sAsg (semLR (semC (.int 1)) (sem2 opAdd (semCall (fun ds S => if ds.length = 2 then g_top_of ds S else .no) (semCons (semVar 0) (semCons (semVar 1) semNil))) (semC (.int 1)))) (gNm 4)) (sIf (semCall bAll (semCons (semLc finD (semItems (semVar 4)) [5] (gNm 5) (semC (.bl true)) (sem2 opEq (semCall (fun ds S => if ds.length = 2 then g_turned ds S else .no) (semCons (semCall (fun ds S => if ds.length = 2 then g_board_of ds S else .no) (semCons (semVar 0) (semCons (semVar 5) semNil))) (semCons (semVar 3) semNil))) (semCall (fun ds S => if ds.length = 2 then g_board_of ds S else .no) (semCons (semVar 1) (semCons (semVar 5) semNil))))) semNil)) (sExpr (semApp (semVar 2) (semVar 3))) sNil))) (sRet (semVar 2)))))
noncomputable def g_turns : List D → Sto → R D := semFn 6 sem_turns
noncomputable def sem_without : SemS := (sRet (semTup (semCons (sem2 opIx (semVar 0) (semC (.int 0))) (semCons (sem2 opAdd (semSl (sem2 opIx (semVar 0) (semC (.int 1))) .no (.e (semVar 1))) (semSl (sem2 opIx (semVar 0) (semC (.int 1))) (.e (sem2 opAdd (semVar 1) (semC (.int 1)))) .no)) semNil))))
noncomputable def g_without : List D → Sto → R D := semFn 2 sem_without
noncomputable def sem_exchanged : SemS := (sSeq (sAsg (sem2 opIx (semVar 0) (semC (.int 1))) (gNm 2)) (sRet (semTup (semCons (sem2 opIx (semVar 0) (semC (.int 0))) (semCons (sem2 opAdd (sem2 opAdd (semSl (semVar 2) .no (.e (semVar 1))) (semTup (semCons (sem2 opIx (semVar 2) (sem2 opAdd (semVar 1) (semC (.int 1)))) (semCons (sem2 opIx (semVar 2) (semVar 1)) semNil)))) (semSl (semVar 2) (.e (sem2 opAdd (semVar 1) (semC (.int 2)))) .no)) semNil)))))
noncomputable def g_exchanged : List D → Sto → R D := semFn 3 sem_exchanged
noncomputable def sem_needless : SemS := (sSeq (sExpr (semCall (fun ds S => if ds.length = 1 then g_need_plan ds S else .no) (semCons (semVar 0) semNil))) (sRet (semLc finD (semArg bRange1 (semCons (semCall bLen (semCons (sem2 opIx (semVar 0) (semC (.int 1))) semNil)) semNil)) [1] (gNm 1) (sem2 opIs (semCall (fun ds S => if ds.length = 2 then g_parted ds S else .no) (semCons (semVar 0) (semCons (semCall (fun ds S => if ds.length = 2 then g_without ds S else .no) (semCons (semVar 0) (semCons (semVar 1) semNil))) semNil))) (semC .non)) (semVar 1))))
noncomputable def g_needless : List D → Sto → R D := semFn 2 sem_needless
noncomputable def sem_exchangeable : SemS := (sSeq (sExpr (semCall (fun ds S => if ds.length = 1 then g_need_plan ds S else .no) (semCons (semVar 0) semNil))) (sRet (semLc finD (semArg bRange1 (semCons (sem2 opSub (semCall bLen (semCons (sem2 opIx (semVar 0) (semC (.int 1))) semNil)) (semC (.int 1))) semNil)) [1] (gNm 1) (sem2 opIs (semCall (fun ds S => if ds.length = 2 then g_parted ds S else .no) (semCons (semVar 0) (semCons (semCall (fun ds S => if ds.length = 2 then g_exchanged ds S else .no) (semCons (semVar 0) (semCons (semVar 1) semNil))) semNil))) (semC .non)) (semVar 1))))
noncomputable def g_exchangeable : List D → Sto → R D := semFn 2 sem_exchangeable
noncomputable def sem_strips_seen : SemS := (sRet (semLc finD (semItems (semVar 1)) [2] (gNm 2) (semC (.bl true)) (semCall (fun ds S => if ds.length = 5 then g_source ds S else .no) (semCons (semCall bLen (semCons (sem2 opIx (semVar 0) (semC (.int 0))) semNil)) (semCons (sem2 opIx (semVar 0) (semC (.int 1))) (semCons (sem2 opIx (semVar 2) (semC (.int 0))) (semCons (sem2 opIx (semVar 2) (semC (.int 1))) (semCons (sem2 opIx (semVar 2) (semC (.int 2))) semNil))))))))
noncomputable def g_strips_seen : List D → Sto → R D := semFn 3 sem_strips_seen
noncomputable def sem_clash_of : SemS := (sSeq (sAsg (semCall (fun ds S => if ds.length = 2 then g_strips_seen ds S else .no) (semCons (semVar 0) (semCons (semVar 1) semNil))) (gNm 2)) (sSeq (sFor (semArg bRange1 (semCons (semCall bLen (semCons (semVar 1) semNil)) semNil)) (gNm 3) (sFor (semArg bRange2 (semCons (sem2 opAdd (semVar 3) (semC (.int 1))) (semCons (semCall bLen (semCons (semVar 1) semNil)) semNil))) (gNm 4) (sIf (semAnd (sem2 opEq (sem2 opIx (semVar 2) (semVar 3)) (sem2 opIx (semVar 2) (semVar 4))) (sem2 opNe (sem2 opIx (sem2 opIx (semVar 1) (semVar 3)) (semC (.int 3))) (sem2 opIx (sem2 opIx (semVar 1) (semVar 4)) (semC (.int 3))))) (sRet (semTup (semCons (semVar 3) (semCons (semVar 4) semNil)))) sNil))) (sRet (semC .non))))
noncomputable def g_clash_of : List D → Sto → R D := semFn 5 sem_clash_of
noncomputable def sem_with_wood : SemS := (sRet (semIte (semCall bIsi (semCons (semVar 0) (semCons (semC (.ty .tuple)) semNil))) (sem2 opAdd (semVar 0) (semTup (semCons (semC (.str "a")) semNil))) (semVar 0)))
noncomputable def g_with_wood : List D → Sto → R D := semFn 1 sem_with_wood
noncomputable def sem_is_board_of : SemS := (sSeq (sIf (semOr (sem1 opNot (semCall bIsi (semCons (semVar 2) (semCons (semC (.ty .tuple)) semNil)))) (sem2 opNe (semCall bLen (semCons (semVar 2) semNil)) (semVar 0))) (sRet (semC (.bl false))) sNil) (sSeq (sFor (semItems (semVar 2)) (gNm 3) (sIf (semOr (sem1 opNot (semCall bIsi (semCons (semVar 3) (semCons (semC (.ty .str)) semNil)))) (semOr (sem2 opNe (semCall bLen (semCons (semVar 3) semNil)) (semVar 1)) (sem1 opNot (semCall bAll (semCons (semLc finD (semItems (semVar 3)) [4] (gNm 4) (semC (.bl true)) (sem2 opIn (semVar 4) (semC (.str "abcd")))) semNil))))) (sRet (semC (.bl false))) sNil)) (sRet (semC (.bl true)))))
noncomputable def g_is_board_of : List D → Sto → R D := semFn 5 sem_is_board_of
noncomputable def sem_need_glued : SemS := (sSeq (sIf (sem1 opNot (semCall (fun ds S => if ds.length = 1 then g_are_woods ds S else .no) (semCons (semVar 0) semNil))) (sRaise "InvalidPlan") sNil) (sIf (sem1 opNot (semCall (fun ds S => if ds.length = 3 then g_is_number ds S else .no) (semCons (semVar 1) (semCons (semC (.int 1)) (semCons (sem2 opDiv (semC (.int (9))) (semCall bLen (semCons (semVar 0) semNil))) semNil))))) (sRaise "InvalidNumber") sNil))
noncomputable def g_need_glued : List D → Sto → R D := semFn 2 sem_need_glued
noncomputable def sem_need_lot : SemS := (sIf (semOr (sem1 opNot (semCall bIsi (semCons (semVar 0) (semCons (semC (.ty .tuple)) semNil)))) (semOr (sem1 opNot (semLeLe (semC (.int 1)) (semCall bLen (semCons (semVar 0) semNil)) (semC (.int (4))))) (sem1 opNot (semCall bAll (semCons (semLc finD (semItems (semVar 0)) [1] (gNm 1) (semC (.bl true)) (semCall (fun ds S => if ds.length = 1 then g_is_deed_of ds S else .no) (semCons (semVar 1) semNil))) semNil))))) (sRaise "InvalidDeed") sNil)
noncomputable def g_need_lot : List D → Sto → R D := semFn 2 sem_need_lot
noncomputable def sem_need_board : SemS := (sIf (sem1 opNot (semCall (fun ds S => if ds.length = 3 then g_is_board_of ds S else .no) (semCons (semCall bLen (semCons (semVar 0) semNil)) (semCons (semVar 1) (semCons (semVar 2) semNil))))) (sRaise "InvalidBoard") sNil)
noncomputable def g_need_board : List D → Sto → R D := semFn 3 sem_need_board
-- made: dict display
noncomputable def sem_need_all : SemS := (sSeq (sExpr (semCall (fun ds S => if ds.length = 2 then g_need_glued ds S else .no) (semCons (semVar 0) (semCons (semVar 1) semNil)))) (sSeq (sExpr (semCall (fun ds S => if ds.length = 1 then g_need_lot ds S else .no) (semCons (semVar 2) semNil))) (sExpr (semCall (fun ds S => if ds.length = 3 then g_need_board ds S else .no) (semCons (semVar 0) (semCons (semVar 1) (semCons (semVar 3) semNil)))))))
noncomputable def g_need_all : List D → Sto → R D := semFn 4 sem_need_all
-- fewest: its callees
-- way_to: its callees
noncomputable def sem__law_behind : SemS := (sSeq (sPar [3, 4, 5] (semCons (semCall bLen (semCons (semVar 0) semNil)) (semCons (semCall bLen (semCons (sem2 opIx (semVar 0) (semC (.int 0))) semNil)) (semCons semNewT semNil)))) (sSeq (sFor (semArg bRange1 (semCons (semVar 3) semNil)) (gNm 2) (sFor (semArg bRange1 (semCons (semVar 4) semNil)) (gNm 6) (sSub (sem2 opIx (sem2 opIx (semVar 0) (semVar 2)) (semVar 6)) (semVar 5) (semTup (semCons (semVar 2) (semCons (semVar 6) semNil)))))) (sRet (semCall (fun ds S => if ds.length = 3 then g__law_rows ds S else .no) (semCons (semVar 3) (semCons (semVar 4) (semCons (semCall (fun ds S => if ds.length = 4 then g__law_done ds S else .no) (semCons (semVar 3) (semCons (semVar 4) (semCons (semVar 5) (semCons (semVar 1) semNil))))) semNil)))))))
noncomputable def g__law_behind : List D → Sto → R D := semFn 7 sem__law_behind
noncomputable def sem__law_begin : SemS := (sRet (semCall bTuple (semCons (semLc finD (semItems (semVar 0)) [2] (gNm 2) (semC (.bl true)) (sem2 opMul (semVar 2) (semVar 1))) semNil)))
noncomputable def g__law_begin : List D → Sto → R D := semFn 3 sem__law_begin
noncomputable def sem__law_lot : SemS := (sRet (semCall bTuple (semCons (semLc finD (semArg bRange1 (semCons (sem2 opAdd (semC (.int 1)) (semCall (fun ds S => if ds.length = 2 then g__law_saw ds S else .no) (semCons (semVar 0) (semCons (semC (.int 4)) semNil)))) semNil)) [1] (gNm 1) (semC (.bl true)) (semCall (fun ds S => if ds.length = 1 then g__law_deed ds S else .no) (semCons (semVar 0) semNil))) semNil)))
noncomputable def g__law_lot : List D → Sto → R D := semFn 2 sem__law_lot
-- _law_made: dict display
noncomputable def sem__law_small : SemS := (sSeq (sAsg (semCall (fun ds S => if ds.length = 2 then g__law_woods ds S else .no) (semCons (semVar 0) (semCons (semC (.int 3)) semNil))) (gNm 1)) (sRet (semTup (semCons (semVar 1) (semCons (sem2 opAdd (semC (.int 1)) (semCall (fun ds S => if ds.length = 2 then g__law_saw ds S else .no) (semCons (semVar 0) (semCons (sem2 opDiv (semC (.int 8)) (semCall bLen (semCons (semVar 1) semNil))) semNil)))) semNil)))))
noncomputable def g__law_small : List D → Sto → R D := semFn 2 sem__law_small
noncomputable def sem__law_shuffled : SemS := (sSeq (sPar [4, 5] (semCons (semCall bListO (semCons (semJoin (semC (.str "")) (semCall (fun ds S => if ds.length = 2 then g__law_begin ds S else .no) (semCons (semVar 1) (semCons (semVar 2) semNil)))) semNil)) (semCons (semLstO semNil) semNil))) (sSeq (sFor (semArg bRange1 (semCons (semCall bLen (semCons (semVar 1) semNil)) semNil)) (gNm 3) (sSeq (sAsg (semC (.str "")) (gNm 6)) (sSeq (sFor (semArg bRange1 (semCons (semVar 2) semNil)) (gNm 7) (sAsg (sem2 opAdd (semVar 6) (semPop (semVar 4) (semCall (fun ds S => if ds.length = 2 then g__law_saw ds S else .no) (semCons (semVar 0) (semCons (semCall bLen (semCons (semVar 4) semNil)) semNil))))) (gNm 6))) (sExpr (semApp (semVar 5) (semVar 6)))))) (sRet (semCall bTuple (semCons (semVar 5) semNil)))))
noncomputable def g__law_shuffled : List D → Sto → R D := semFn 8 sem__law_shuffled
-- are_boards_of: call set
-- never_lot: its callees
-- is_never: its callees
noncomputable def sem_is_good : SemS := (sSeq (sAsg (semCall (fun ds S => if ds.length = 2 then g_behind ds S else .no) (semCons (semVar 0) (semCons (semVar 1) semNil))) (gNm 4)) (sRet (semOr (semCall (fun ds S => if ds.length = 1 then g_is_clean ds S else .no) (semCons (semVar 4) semNil)) (semCall bAll (semCons (semLc finD (semItems (semVar 2)) [5] (gNm 5) (semC (.bl true)) (sem2 opIn (semCall (fun ds S => if ds.length = 2 then g_behind ds S else .no) (semCons (semVar 4) (semCons (semVar 5) semNil))) (semVar 3))) semNil)))))
noncomputable def g_is_good : List D → Sto → R D := semFn 6 sem_is_good
noncomputable def sem_index_for : SemS := (sSeq (sFor (semArg bEnumL (semCons (semVar 1) semNil)) (gTp [4, 5]) (sIf (semCall (fun ds S => if ds.length = 4 then g_is_good ds S else .no) (semCons (semVar 0) (semCons (semVar 5) (semCons (semVar 2) (semCons (semVar 3) semNil))))) (sRet (semVar 4)) sNil)) (sRet (semC .non)))
noncomputable def g_index_for : List D → Sto → R D := semFn 6 sem_index_for
-- levels: its callees
noncomputable def sem_need_game : SemS := (sSeq (sExpr (semCall (fun ds S => if ds.length = 2 then g_need_glued ds S else .no) (semCons (semVar 0) (semCons (semVar 1) semNil)))) (sSeq (sExpr (semCall (fun ds S => if ds.length = 1 then g_need_lot ds S else .no) (semCons (semVar 2) semNil))) (sExpr (semCall (fun ds S => if ds.length = 1 then g_need_lot ds S else .no) (semCons (semVar 3) semNil)))))
noncomputable def g_need_game : List D → Sto → R D := semFn 4 sem_need_game
-- turns_to: its callees
-- plan_for: its callees
-- hold_for: its callees
-- is_plan_value: its callees
-- brings: its callees
-- is_hold: its callees
noncomputable def sem_deed_line : SemS := (sRet (semJoin (semC (.str " ")) (semLc finD (semItems (semVar 0)) [1] (gNm 1) (semC (.bl true)) (semCall bStr (semCons (semVar 1) semNil)))))
noncomputable def g_deed_line : List D → Sto → R D := semFn 2 sem_deed_line
noncomputable def sem_plan_lines : SemS := (sRet (sem2 opAdd (semLst (semCons (sem2 opAdd (semC (.str "woods ")) (semJoin (semC (.str "")) (sem2 opIx (semVar 0) (semC (.int 0))))) semNil)) (semLc finD (semItems (sem2 opIx (semVar 0) (semC (.int 1)))) [1] (gNm 1) (semC (.bl true)) (semCall (fun ds S => if ds.length = 1 then g_deed_line ds S else .no) (semCons (semVar 1) semNil)))))
noncomputable def g_plan_lines : List D → Sto → R D := semFn 2 sem_plan_lines
noncomputable def sem_deed_in : SemS := (sSeq (sAsg (semSplit (semVar 0) (semC (.str " "))) (gNm 1)) (sSeq (sIf (semOr (sem2 opLt (semCall bLen (semCons (semVar 1) semNil)) (semC (.int 2))) (sem1 opNot (semCall bAll (semCons (semLc finD (semItems (semSl (semVar 1) (.e (semC (.int 2))) .no)) [3] (gNm 3) (semC (.bl true)) (sem2 opIn (semVar 3) (semC (tupS ["-2", "-1", "0", "1", "2", "3"])))) semNil)))) (sRet (semC .non)) sNil) (sSeq (sAsg (sem2 opAdd (semTup (semCons (sem2 opIx (semVar 1) (semC (.int 0))) (semCons (sem2 opIx (semVar 1) (semC (.int 1))) semNil))) (semCall bTuple (semCons (semLc finD (semItems (semSl (semVar 1) (.e (semC (.int 2))) .no)) [3] (gNm 3) (semC (.bl true)) (semCall bInt (semCons (semVar 3) semNil))) semNil))) (gNm 2)) (sRet (semIte (semCall (fun ds S => if ds.length = 1 then g_is_deed_of ds S else .no) (semCons (semVar 2) semNil)) (semVar 2) (semC .non))))))
noncomputable def g_deed_in : List D → Sto → R D := semFn 4 sem_deed_in
noncomputable def sem_woods_in : SemS := (sSeq (sAsg (semSplit (semVar 0) (semC (.str " "))) (gNm 1)) (sSeq (sIf (semOr (sem2 opNe (semCall bLen (semCons (semVar 1) semNil)) (semC (.int 2))) (semOr (sem2 opNe (sem2 opIx (semVar 1) (semC (.int 0))) (semC (.str "woods"))) (sem1 opNot (semCall (fun ds S => if ds.length = 1 then g_are_woods ds S else .no) (semCons (semCall bTuple (semCons (semCall bList (semCons (sem2 opIx (semVar 1) (semC (.int 1))) semNil)) semNil)) semNil))))) (sRet (semC .non)) sNil) (sRet (semCall bTuple (semCons (semCall bList (semCons (sem2 opIx (semVar 1) (semC (.int 1))) semNil)) semNil)))))
noncomputable def g_woods_in : List D → Sto → R D := semFn 2 sem_woods_in
noncomputable def sem_plan_text : SemS := (sSeq (sExpr (semCall (fun ds S => if ds.length = 1 then g_need_plan ds S else .no) (semCons (semVar 0) semNil))) (sRet (semJoin (semC (.str "\n")) (semCall (fun ds S => if ds.length = 1 then g_plan_lines ds S else .no) (semCons (semVar 0) semNil)))))
noncomputable def g_plan_text : List D → Sto → R D := semFn 1 sem_plan_text
noncomputable def sem__law_lines : SemS := (sRet (sem2 opAdd (semLst (semCons (sem2 opAdd (semC (.str "woods ")) (semJoin (semC (.str "")) (sem2 opIx (semVar 0) (semC (.int 0))))) semNil)) (semLc finD (semItems (sem2 opIx (semVar 0) (semC (.int 1)))) [1] (gNm 1) (semC (.bl true)) (semJoin (semC (.str " ")) (semLc finD (semItems (semVar 1)) [2] (gNm 2) (semC (.bl true)) (semCall bStr (semCons (semVar 2) semNil)))))))
noncomputable def g__law_lines : List D → Sto → R D := semFn 3 sem__law_lines
noncomputable def sem__wall : SemS := (sWhile (semC (.bl true)) sNil)
noncomputable def g__wall : List D → Sto → R D := semFn 1 sem__wall
-- _law_grow: stmt AugAssign bench += deeds
noncomputable def sem_wood_at : SemS := (sSeq (sExpr (semCall (fun ds S => if ds.length = 1 then g_need_plan ds S else .no) (semCons (semVar 0) semNil))) (sSeq (sExpr (semCall (fun ds S => if ds.length = 3 then g_need_number ds S else .no) (semCons (semVar 1) (semCons (semC (.int 1)) (semCons (semC (.int (1000000000000000000000000000000))) semNil))))) (sSeq (sExpr (semCall (fun ds S => if ds.length = 2 then g_need_row ds S else .no) (semCons (semVar 0) (semCons (semVar 2) semNil)))) (sRet (sem2 opIx (sem2 opIx (semVar 0) (semC (.int 0))) (semCall (fun ds S => if ds.length = 5 then g_source ds S else .no) (semCons (semCall bLen (semCons (sem2 opIx (semVar 0) (semC (.int 0))) semNil)) (semCons (sem2 opIx (semVar 0) (semC (.int 1))) (semCons (semVar 1) (semCons (semVar 2) (semCons (semCall (fun ds S => if ds.length = 2 then g_column_at ds S else .no) (semCons (semVar 1) (semCons (semVar 3) semNil))) semNil)))))))))))
noncomputable def g_wood_at : List D → Sto → R D := semFn 4 sem_wood_at
noncomputable def sem_window : SemS := (sSeq (sExpr (semCall (fun ds S => if ds.length = 1 then g_need_plan ds S else .no) (semCons (semVar 0) semNil))) (sSeq (sExpr (semCall (fun ds S => if ds.length = 3 then g_need_number ds S else .no) (semCons (semVar 1) (semCons (semC (.int 1)) (semCons (semC (.int (1000000000000000000000000000000))) semNil))))) (sSeq (sAsg (semCall (fun ds S => if ds.length = 2 then g_column_at ds S else .no) (semCons (semVar 1) (semCons (semVar 2) semNil))) (gNm 4)) (sSeq (sExpr (semCall (fun ds S => if ds.length = 3 then g_need_number ds S else .no) (semCons (semVar 3) (semCons (semC (.int 1)) (semCons (semCall bMin (semCons (semC (.int 60)) (semCons (sem2 opSub (semVar 1) (semVar 4)) semNil))) semNil))))) (sSeq (sAsg (semLstO semNil) (gNm 5)) (sSeq (sFor (semArg bRange1 (semCons (semCall bLen (semCons (sem2 opIx (semVar 0) (semC (.int 0))) semNil)) semNil)) (gNm 6) (sSeq (sAsg (semLc finD (semArg bRange1 (semCons (semVar 3) semNil)) [8] (gNm 8) (semC (.bl true)) (semCall (fun ds S => if ds.length = 5 then g_source ds S else .no) (semCons (semCall bLen (semCons (sem2 opIx (semVar 0) (semC (.int 0))) semNil)) (semCons (sem2 opIx (semVar 0) (semC (.int 1))) (semCons (semVar 1) (semCons (semVar 6) (semCons (sem2 opAdd (semVar 4) (semVar 8)) semNil))))))) (gNm 7)) (sExpr (semApp (semVar 5) (semJoin (semC (.str "")) (semLc finD (semItems (semVar 7)) [9] (gNm 9) (semC (.bl true)) (sem2 opIx (sem2 opIx (semVar 0) (semC (.int 0))) (semVar 9)))))))) (sRet (semCall bTuple (semCons (semVar 5) semNil)))))))))
noncomputable def g_window : List D → Sto → R D := semFn 10 sem_window
noncomputable def sem_count_row : SemS := (sSeq (sExpr (semCall (fun ds S => if ds.length = 1 then g_need_plan ds S else .no) (semCons (semVar 0) semNil))) (sSeq (sExpr (semCall (fun ds S => if ds.length = 3 then g_need_number ds S else .no) (semCons (semVar 1) (semCons (semC (.int 1)) (semCons (semC (.int (1000000000000000000000000000000))) semNil))))) (sSeq (sExpr (semCall (fun ds S => if ds.length = 2 then g_need_row ds S else .no) (semCons (semVar 0) (semCons (semVar 2) semNil)))) (sSeq (sExpr (semCall (fun ds S => if ds.length = 2 then g_need_wood ds S else .no) (semCons (semVar 0) (semCons (semVar 3) semNil)))) (sSeq (sAsg (semCall (fun ds S => if ds.length = 2 then g_form_of ds S else .no) (semCons (semCall bLen (semCons (sem2 opIx (semVar 0) (semC (.int 0))) semNil)) (semCons (sem2 opIx (semVar 0) (semC (.int 1))) semNil))) (gNm 4)) (sSeq (sPar [8, 9] (semCons (sem2 opIx (semVar 4) (semC (.int 0))) (semCons (sem2 opIx (semVar 4) (semC (.int 1))) semNil))) (sSeq (sIf (sem2 opLt (semVar 1) (sem2 opAdd (sem2 opMul (semC (.int 2)) (semVar 9)) (semVar 8))) (sRet (semCount (sem2 opIx (semCall (fun ds S => if ds.length = 2 then g_board_of ds S else .no) (semCons (semVar 0) (semCons (semVar 1) semNil))) (semVar 2)) (semVar 3))) sNil) (sSeq (sAsg (semLc finD (semArg bRange1 (semCons (semVar 9) semNil)) [10] (gNm 10) (semC (.bl true)) (sem2 opIx (sem2 opIx (semVar 0) (semC (.int 0))) (semCall (fun ds S => if ds.length = 4 then g_strip_by ds S else .no) (semCons (semVar 4) (semCons (semVar 1) (semCons (semVar 2) (semCons (semVar 10) semNil))))))) (gNm 5)) (sSeq (sAsg (sem2 opAdd (semVar 5) (semLc finD (semArg bRange1 (semCons (semVar 9) semNil)) [10] (gNm 10) (semC (.bl true)) (sem2 opIx (sem2 opIx (semVar 0) (semC (.int 0))) (semCall (fun ds S => if ds.length = 4 then g_strip_by ds S else .no) (semCons (semVar 4) (semCons (semVar 1) (semCons (semVar 2) (semCons (sem2 opSub (sem2 opSub (semVar 1) (semC (.int 1))) (semVar 10)) semNil)))))))) (gNm 5)) (sSeq (sAsg (semCount (semVar 5) (semVar 3)) (gNm 6)) (sSeq (sFor (semArg bRange2 (semCons (semVar 9) (semCons (sem2 opAdd (semVar 9) (semVar 8)) semNil))) (gNm 7) (sIf (sem2 opEq (sem2 opIx (sem2 opIx (semVar 0) (semC (.int 0))) (semCall (fun ds S => if ds.length = 4 then g_strip_by ds S else .no) (semCons (semVar 4) (semCons (semVar 1) (semCons (semVar 2) (semCons (semVar 7) semNil)))))) (semVar 3)) (sAsg (sem2 opAdd (sem2 opAdd (semVar 6) (sem2 opDiv (sem2 opSub (sem2 opSub (sem2 opSub (semVar 1) (semVar 9)) (semC (.int 1))) (semVar 7)) (semVar 8))) (semC (.int 1))) (gNm 6)) sNil)) (sRet (semVar 6)))))))))))))
noncomputable def g_count_row : List D → Sto → R D := semFn 11 sem_count_row
-- is_so: its callees
noncomputable def sem_are_seen : SemS := (sSeq (sIf (semOr (sem1 opNot (semCall bIsi (semCons (semVar 1) (semCons (semC (.ty .tuple)) semNil)))) (sem2 opGt (semCall bLen (semCons (semVar 1) semNil)) (semC (.int 8)))) (sRet (semC (.bl false))) sNil) (sSeq (sFor (semItems (semVar 1)) (gNm 2) (sSeq (sIf (semOr (sem1 opNot (semCall bIsi (semCons (semVar 2) (semCons (semC (.ty .tuple)) semNil)))) (semOr (sem2 opNe (semCall bLen (semCons (semVar 2) semNil)) (semC (.int 4))) (sem1 opNot (semCall (fun ds S => if ds.length = 3 then g_is_number ds S else .no) (semCons (sem2 opIx (semVar 2) (semC (.int 0))) (semCons (semC (.int 1)) (semCons (semC (.int (1000000000000000000000000000000))) semNil))))))) (sRet (semC (.bl false))) sNil) (sSeq (sIf (semOr (sem1 opNot (semCall (fun ds S => if ds.length = 3 then g_is_number ds S else .no) (semCons (sem2 opIx (semVar 2) (semC (.int 1))) (semCons (semC (.int 0)) (semCons (sem2 opSub (semCall bLen (semCons (sem2 opIx (semVar 0) (semC (.int 0))) semNil)) (semC (.int 1))) semNil))))) (sem1 opNot (semCall (fun ds S => if ds.length = 3 then g_is_number ds S else .no) (semCons (sem2 opIx (semVar 2) (semC (.int 2))) (semCons (semC (.int 0)) (semCons (sem2 opSub (sem2 opIx (semVar 2) (semC (.int 0))) (semC (.int 1))) semNil)))))) (sRet (semC (.bl false))) sNil) (sIf (semOr (sem1 opNot (semCall bIsi (semCons (sem2 opIx (semVar 2) (semC (.int 3))) (semCons (semC (.ty .str)) semNil)))) (semOr (sem2 opNe (semCall bLen (semCons (sem2 opIx (semVar 2) (semC (.int 3))) semNil)) (semC (.int 1))) (sem2 opNotIn (sem2 opIx (semVar 2) (semC (.int 3))) (semC (.str "abcd"))))) (sRet (semC (.bl false))) sNil)))) (sRet (semC (.bl true)))))
noncomputable def g_are_seen : List D → Sto → R D := semFn 3 sem_are_seen
noncomputable def sem_need_seen : SemS := (sIf (sem1 opNot (semCall (fun ds S => if ds.length = 2 then g_are_seen ds S else .no) (semCons (semVar 0) (semCons (semVar 1) semNil)))) (sRaise "InvalidSeen") sNil)
noncomputable def g_need_seen : List D → Sto → R D := semFn 2 sem_need_seen
noncomputable def sem_woods_told : SemS := (sSeq (sExpr (semCall (fun ds S => if ds.length = 1 then g_need_plan ds S else .no) (semCons (semVar 0) semNil))) (sSeq (sExpr (semCall (fun ds S => if ds.length = 2 then g_need_seen ds S else .no) (semCons (semVar 0) (semCons (semVar 1) semNil)))) (sSeq (sIf (sem2 opIsNot (semCall (fun ds S => if ds.length = 2 then g_clash_of ds S else .no) (semCons (semVar 0) (semCons (semVar 1) semNil))) (semC .non)) (sRet (semC .non)) sNil) (sSeq (sAsg (semCall bDictP (semCons (semLc finD (semArg bZipS (semCons (semCall (fun ds S => if ds.length = 2 then g_strips_seen ds S else .no) (semCons (semVar 0) (semCons (semVar 1) semNil))) (semCons (semVar 1) semNil))) [3, 4] (gTp [3, 4]) (semC (.bl true)) (semTup (semCons (semVar 3) (semCons (sem2 opIx (semVar 4) (semC (.int 3))) semNil)))) semNil)) (gNm 2)) (sRet (semCall bTuple (semCons (semLc finD (semArg bRange1 (semCons (semCall bLen (semCons (sem2 opIx (semVar 0) (semC (.int 0))) semNil)) semNil)) [3] (gNm 3) (semC (.bl true)) (semGet1 (semVar 2) (semVar 3))) semNil)))))))
noncomputable def g_woods_told : List D → Sto → R D := semFn 5 sem_woods_told
noncomputable def sem_clash : SemS := (sSeq (sExpr (semCall (fun ds S => if ds.length = 1 then g_need_plan ds S else .no) (semCons (semVar 0) semNil))) (sSeq (sExpr (semCall (fun ds S => if ds.length = 2 then g_need_seen ds S else .no) (semCons (semVar 0) (semCons (semVar 1) semNil)))) (sRet (semCall (fun ds S => if ds.length = 2 then g_clash_of ds S else .no) (semCons (semVar 0) (semCons (semVar 1) semNil))))))
noncomputable def g_clash : List D → Sto → R D := semFn 2 sem_clash
end Sh
namespace Sh
open PySem L2 GB
/-! ### comprehensions, built-ins over rows -/
section
variable {ρ : GB.Env} {S : Sto} {i : Nat} {ft fe : Sem} {f : D → D} {p : D → Bool}
theorem cLoop_filter : ∀ {ds : List D}, (∀ d ∈ ds, ft (ρ.set i (some d)) S = .ok (.bl (p d)) S) → (∀ d ∈ ds, p d = true → fe (ρ.set i (some d)) S = .ok (f d) S) → cLoop (gNm i) ft fe ρ ds S = .ok ((ds.filter p).map f) S
  | [], _, _ => rfl
  | d :: ds, h1, h2 => by
    have ih := cLoop_filter (fun e he => h1 e (List.mem_cons_of_mem _ he)) fun e he => h2 e (List.mem_cons_of_mem _ he)
    have a := h1 d (List.mem_cons_self ..)
    unfold cLoop
    simp only [gNm_eq]
    rw [a]
    cases hp : p d with
    | true =>
      have b := h2 d (List.mem_cons_self ..) hp
      simp only [b, ih, bind_ok, List.filter_cons, hp, if_true, List.map_cons]
    | false => simp only [ih, List.filter_cons, hp, Bool.false_eq_true, if_false]
theorem cLoop_map {ds : List D} (h : ∀ d ∈ ds, fe (ρ.set i (some d)) S = .ok (f d) S) : cLoop (gNm i) (semC (.bl true)) fe ρ ds S = .ok (ds.map f) S := by
  have := cLoop_filter (ft := semC (.bl true)) (p := fun _ => true) (ds := ds) (fun d hd => rfl) (fun d hd _ => h d hd)
  rw [this, List.filter_eq_self.mpr (fun _ _ => rfl)]
theorem blsOf_mapbl (g : D → Bool) : ∀ xs : List D, blsOf (xs.map fun d => .bl (g d)) = some (xs.map g)
  | [] => rfl
  | x :: xs => by simp [blsOf, blsOf_mapbl g xs]
theorem bAll_map (g : D → Bool) (xs : List D) : bAll [.lst (xs.map fun d => .bl (g d))] S = .ok (.bl (xs.all g)) S := by
  simp [bAll, lstOf, blsOf_mapbl, List.all_map]
end
/-! ### values that are data alone -/
def Val (w : Nat) : Nat → D → Prop
  | _, .non => True
  | _, .bl _ => True
  | _, .int _ => True
  | _, .str z => z.length ≤ w ∧ PyData.strOk z = true
  | n + 1, .tup xs => xs.length ≤ w ∧ ∀ x ∈ xs, Val w n x
  | n + 1, .lst xs => xs.length ≤ w ∧ ∀ x ∈ xs, Val w n x
  | _, _ => False
theorem val_str {w n : Nat} {z : Str} : Val w n (.str z) ↔ z.length ≤ w ∧ PyData.strOk z = true := by cases n <;> exact Iff.rfl
theorem val_own {w n k : Nat} : ¬ Val w n (.own k) := by cases n <;> exact id
theorem val_ty {w n : Nat} {k : BT} : ¬ Val w n (.ty k) := by cases n <;> exact id
theorem val_gl {w n : Nat} {k : Str} : ¬ Val w n (.gl k) := by cases n <;> exact id
def isNum (v : D) (lo hi : Int) : Bool := match v with
  | .int i => decide (lo ≤ i) && decide (i ≤ hi)
  | _ => false
theorem is_number_eq {w n : Nat} {v : D} {lo hi : Int} {S : Sto} (h : Val w n v) : g_is_number [v, .int lo, .int hi] S = .ok (.bl (isNum v lo hi)) S := by
  cases v <;> first
    | (cases n <;> exact h.elim)
    | (simp [g_is_number, semFn_eq, sem_is_number, startE, isNum]; done)
theorem law_int_eq {w n : Nat} {v : D} {lo hi : Int} {S : Sto} (h : Val w n v) : g__law_int [v, .int lo, .int hi] S = .ok (.bl (isNum v lo hi)) S := is_number_eq h
def woods4 : List Str := ["a", "b", "c", "d"]
def isWood : D → Bool
  | .str z => decide (z ∈ woods4)
  | _ => false
def areWoods : D → Bool
  | .tup xs => decide (2 ≤ xs.length) && (decide (xs.length ≤ 4) && xs.all isWood)
  | _ => false
theorem wood_len {z : Str} (h : z ∈ woods4) : z.length = 1 := by
  simp only [woods4, List.mem_cons, List.not_mem_nil, or_false] at h
  rcases h with rfl | rfl | rfl | rfl <;> rfl
theorem wood_sign {z : Str} (h : z.length = 1) : decide (z.cps.getD 0 0 ∈ ("abcd" : Str).cps.toList) = decide (z ∈ woods4) := by
  obtain ⟨⟨l⟩⟩ := z
  match l, h with
  | [c], _ =>
    have e1 : ("abcd" : Str).cps.toList = [97, 98, 99, 100] := by decide +kernel
    have e2 : woods4 = [⟨#[97]⟩, ⟨#[98]⟩, ⟨#[99]⟩, ⟨#[100]⟩] := by decide +kernel
    rw [e1, e2]
    simp
theorem are_woods_eq {w n : Nat} {v : D} {S : Sto} (h : Val w n v) (hw : w ≤ 1000) : g_are_woods [v] S = .ok (.bl (areWoods v)) S := by
  cases v with
  | tup xs =>
    cases n with
    | zero => exact h.elim
    | succ n =>
      obtain ⟨hl, hx⟩ := h
      have key : ∀ d ∈ xs, (semAnd (semCall bIsi (semCons (semVar 1) (semCons (semC (.ty .str)) semNil))) (semAnd (sem2 opEq (semCall bLen (semCons (semVar 1) semNil)) (semC (.int 1))) (sem2 opIn (semVar 1) (semC (.str "abcd"))))) (([some (D.tup xs), none] : GB.Env).set 1 (some d)) S = .ok (.bl (isWood d)) S := by
        intro d hd
        have hv := hx d hd
        cases d with
        | str z =>
          have hz : z.length ≤ 16777216 := by have := (val_str.mp hv).1; omega
          by_cases h1 : (z.length : Int) = 1
          · have h1' : z.length = 1 := by omega
            simp [h1', opIn, inD, isWood, ← wood_sign h1']
          · have : ¬ z ∈ woods4 := fun q => h1 (by rw [wood_len q]; rfl)
            simp [h1, hz, isWood, this]
        | own k => exact (val_own hv).elim
        | ty k => exact (val_ty hv).elim
        | gl k => exact (val_gl hv).elim
        | _ => simp [isWood]
      have hl2 : xs.length ≤ 16777216 := by omega
      simp [g_are_woods, semFn_eq, sem_are_woods, startE, wipeE, areWoods]
      simp only [hl2, if_true, cLoop_map (f := fun d => .bl (isWood d)) key, bind_ok, finD_eq, bAll_map, toS_ok, finR_rt]
      by_cases h1 : 2 ≤ xs.length <;> by_cases h2 : xs.length ≤ 4
      · rw [if_neg (by omega)]; simp [h1, h2]
      · rw [if_pos (by omega)]; simp [h1, h2]
      · rw [if_pos (by omega)]; simp [h1, h2]
      · rw [if_pos (by omega)]; simp [h1, h2]
  | own k => exact (val_own h).elim
  | ty k => exact (val_ty h).elim
  | gl k => exact (val_gl h).elim
  | _ => simp [g_are_woods, semFn_eq, sem_are_woods, startE, areWoods]
/-! ### deeds -/
theorem shaped_str {z : Str} (h : PyData.strOk z = true) : SeqAt.shaped (.str z) = true := by
  simp [SeqAt.shaped, PyData.canLay0, PyData.depth, h]
theorem toPs_strs : ∀ ls : List Str, toPs (ls.map D.str) = some (ls.map PyData.str)
  | [] => rfl
  | x :: ls => by simp [toPs, toP, toPs_strs ls]
theorem shaped_strs {ls : List Str} (h : ls.all PyData.strOk = true) : SeqAt.shaped (.list (ls.map PyData.str)) = true := by
  have a : ∀ ls : List Str, PyData.depthAll (ls.map PyData.str) = 0 := by
    intro ls; induction ls with
    | nil => rfl
    | cons x ls ih => simp [PyData.depthAll, PyData.depth, ih]
  have b : ∀ ls : List Str, ls.all PyData.strOk = true → PyData.canLayAll0 (ls.map PyData.str) = true := by
    intro ls h; induction ls with
    | nil => rfl
    | cons x ls ih =>
      simp at h
      simp [PyData.canLayAll0, PyData.canLay0, h.1]
      exact ih (by simpa using h.2)
  simp [SeqAt.shaped, PyData.canLay0, PyData.depth, a, b ls h]
theorem any_strs (z : Str) : ∀ ls : List Str, ((ls.map PyData.str).any fun y => PyData.eqv y (.str z)) = decide (z ∈ ls)
  | [] => rfl
  | x :: ls => by
    rw [List.map_cons, List.any_cons, any_strs z ls]
    have : PyData.eqv (.str x) (.str z) = decide (z = x) := by
      show (x == z) = _
      by_cases h : x = z
      · subst h; simp
      · simp [h, Ne.symm h]
    rw [this]
    simp
theorem inD_strs {S : Sto} {z : Str} {ls : List Str} (h : PyData.strOk z = true) (hl : ls.all PyData.strOk = true) : inD S (.str z) (.tup (ls.map D.str)) = some (decide (z ∈ ls)) ∧ inD S (.str z) (.lst (ls.map D.str)) = some (decide (z ∈ ls)) := by
  have e1 : inD S (.str z) (.tup (ls.map D.str)) = (match toPS S (.str z), toPs (ls.map D.str) with
      | some a, some bs => if SeqAt.shaped a && SeqAt.shaped (.list bs) then some (bs.any fun z => PyData.eqv z a) else none
      | _, _ => none) := rfl
  have e2 : inD S (.str z) (.lst (ls.map D.str)) = (match toPS S (.str z), toPs (ls.map D.str) with
      | some a, some bs => if SeqAt.shaped a && SeqAt.shaped (.list bs) then some (bs.any fun z => PyData.eqv z a) else none
      | _, _ => none) := rfl
  rw [e1, e2, toPs_strs, show toPS S (.str z) = some (.str z) from rfl]
  have a := any_strs z ls
  simp only [shaped_str h, shaped_strs hl, Bool.and_self, if_true, a, and_self]
theorem opIn2 {S : Sto} {z a b : Str} (h : PyData.strOk z = true) (ha : PyData.strOk a = true) (hb : PyData.strOk b = true) : opIn (.str z) (.tup [.str a, .str b]) S = .ok (.bl (decide (z = a) || decide (z = b))) S ∧ opNotIn (.str z) (.tup [.str a, .str b]) S = .ok (.bl !(decide (z = a) || decide (z = b))) S ∧
    opIn (.str z) (.lst [.str a, .str b]) S = .ok (.bl (decide (z = a) || decide (z = b))) S ∧ opNotIn (.str z) (.lst [.str a, .str b]) S = .ok (.bl !(decide (z = a) || decide (z = b))) S := by
  obtain ⟨h1, h2⟩ := inD_strs (S := S) (ls := [a, b]) h (by simp [ha, hb])
  have h1 : inD S (.str z) (.tup [.str a, .str b]) = some (decide (z ∈ [a, b])) := h1
  have h2 : inD S (.str z) (.lst [.str a, .str b]) = some (decide (z ∈ [a, b])) := h2
  simp [opIn, opNotIn, h1, h2]
def isSide (s : Str) : Bool := decide (s = "rows") || decide (s = "slices")
def isDeed : D → Bool
  | .tup [.str s, .str w] => isSide s && decide (w = "back")
  | .tup [.str s, .str w, x] => isSide s && ((decide (w = "roll") || decide (w = "shift")) && (isNum x (-2) 2 && !(match x with | .int i => decide (i = 0) | _ => false)))
  | .tup [.str s, .str w, .int m, y] => isSide s && (decide (w = "turn") && (isNum (.int m) 1 3 && isNum y 0 (m - 1)))
  | _ => false
/-- what type a value is of -/
theorem val_nostr {w n : Nat} {d : D} (h : Val w n d) : (∃ z, d = .str z) ∨ ∀ S, bIsi [d, .ty .str] S = .ok (.bl false) S := by
  cases d with
  | str z => exact .inl ⟨z, rfl⟩
  | own k => exact (val_own h).elim
  | ty k => exact (val_ty h).elim
  | gl k => exact (val_gl h).elim
  | _ => exact .inr fun S => rfl
theorem isNum_int {d : D} {lo hi : Int} (h : isNum d lo hi = true) : ∃ i, d = .int i ∧ lo ≤ i ∧ i ≤ hi := by
  cases d with
  | int i => exact ⟨i, rfl, by simpa [isNum] using h⟩
  | _ => simp [isNum] at h
def str0 (d : D) : Option Str := match d with
  | .str s => some s
  | _ => none
theorem isDeed_nostr1 {a b : D} {r : List D} (h : str0 a = none) : isDeed (.tup (a :: b :: r)) = false := by
  unfold isDeed
  split <;> first | rfl | (rename_i heq; simp at heq; obtain ⟨rfl, _⟩ := heq; simp [str0] at h)
theorem isDeed_nostr2 {a b : D} {r : List D} (h : str0 b = none) : isDeed (.tup (a :: b :: r)) = false := by
  unfold isDeed
  split <;> first | rfl | (rename_i heq; simp at heq; obtain ⟨_, rfl, _⟩ := heq; simp [str0] at h)
theorem isDeed_noside {s u : Str} {r : List D} (h : isSide s = false) : isDeed (.tup (.str s :: .str u :: r)) = false := by
  unfold isDeed
  split <;> first | rfl | (rename_i heq; simp at heq; obtain ⟨rfl, _⟩ := heq; simp [h])
theorem str0_none {w n : Nat} {d : D} (h : Val w n d) (hn : ∀ z, d ≠ .str z) : str0 d = none ∧ ∀ S, bIsi [d, .ty .str] S = .ok (.bl false) S := by
  rcases val_nostr h with ⟨z, rfl⟩ | q
  · exact absurd rfl (hn z)
  · refine ⟨?_, q⟩
    cases d <;> first | rfl | exact absurd rfl (hn _)
structure Words : Prop where
  r1 : PyData.strOk "rows" = true
  r2 : PyData.strOk "slices" = true
  r3 : PyData.strOk "roll" = true
  r4 : PyData.strOk "shift" = true
  n1 : ¬ ("back" : Str) = "roll"
  n2 : ¬ ("back" : Str) = "shift"
  n3 : ¬ ("turn" : Str) = "roll"
  n4 : ¬ ("turn" : Str) = "shift"
  n5 : ¬ ("turn" : Str) = "back"
  n6 : ¬ ("roll" : Str) = "back"
  n7 : ¬ ("shift" : Str) = "back"
  n8 : ¬ ("roll" : Str) = "turn"
  n9 : ¬ ("shift" : Str) = "turn"
  n10 : ¬ ("back" : Str) = "turn"
  n11 : ¬ ("roll" : Str) = "shift"
  n12 : ¬ ("shift" : Str) = "roll"
  n13 : ¬ ("rows" : Str) = "slices"
  n14 : ¬ ("slices" : Str) = "rows"
theorem words : Words := by constructor <;> decide +kernel
theorem is_deed_eq {w n : Nat} {v : D} {S : Sto} (h : Val w n v) (hw : w ≤ 1000) : g_is_deed_of [v] S = .ok (.bl (isDeed v)) S := by
  obtain ⟨r1, r2, r3, r4, n1, n2, n3, n4, n5, n6, n7, n8, n9, n10, n11, n12, n13, n14⟩ := words
  cases v with
  | tup xs =>
    cases n with
    | zero => exact h.elim
    | succ n =>
      obtain ⟨hl, hx⟩ := h
      match xs, hx with
      | [], _ => simp [g_is_deed_of, semFn_eq, sem_is_deed_of, startE, atI, ixN, isDeed]
      | [a], _ => simp [g_is_deed_of, semFn_eq, sem_is_deed_of, startE, atI, ixN, isDeed]
      | a :: b :: c :: d :: e :: r, hx =>
        have : 4 < (r.length : Int) + 1 + 1 + 1 + 1 + 1 := by omega
        simp [g_is_deed_of, semFn_eq, sem_is_deed_of, startE, atI, ixN, isDeed, this]
      | [a, b], hx =>
        have ha := hx a (by simp)
        have hb := hx b (by simp)
        by_cases sa : ∃ z, a = .str z
        case neg =>
          obtain ⟨e1, e2⟩ := str0_none ha fun z q => sa ⟨z, q⟩
          simp [g_is_deed_of, semFn_eq, sem_is_deed_of, startE, atI, ixN, isDeed_nostr1 e1, e2]
        obtain ⟨s, rfl⟩ := sa
        have q := val_str.mp ha
        by_cases sb : ∃ z, b = .str z
        case neg =>
          obtain ⟨e1, e2⟩ := str0_none hb fun z q => sb ⟨z, q⟩
          simp [g_is_deed_of, semFn_eq, sem_is_deed_of, startE, atI, ixN, isDeed_nostr2 e1, e2, opIn2 q.2 r1 r2]
        obtain ⟨u, rfl⟩ := sb
        have q2 := val_str.mp hb
        by_cases cs : isSide s = true
        case neg =>
          have cs1 : isSide s = false := by simpa using cs
          have cs2 : ¬ s = "rows" ∧ ¬ s = "slices" := by simpa [isSide] using cs
          simp [g_is_deed_of, semFn_eq, sem_is_deed_of, startE, atI, ixN, opIn2 q.2 r1 r2, opIn2 q2.2 r3 r4, isDeed_noside cs1, cs2]
        have cs2 : s = "rows" ∨ s = "slices" := by simpa [isSide] using cs
        have cs3 : ¬ (¬ s = "rows" ∧ ¬ s = "slices") := by rintro ⟨z1, z2⟩; rcases cs2 with z | z <;> contradiction
        by_cases c1 : u = "back"
        · subst c1; simp [g_is_deed_of, semFn_eq, sem_is_deed_of, startE, atI, ixN, opIn2 q.2 r1 r2, opIn2 q2.2 r3 r4, isDeed, cs, cs3]
        · simp [g_is_deed_of, semFn_eq, sem_is_deed_of, startE, atI, ixN, opIn2 q.2 r1 r2, opIn2 q2.2 r3 r4, isDeed, cs, cs3, c1]
      | [a, b, c], hx =>
        have ha := hx a (by simp)
        have hb := hx b (by simp)
        have hc := hx c (by simp)
        by_cases sa : ∃ z, a = .str z
        case neg =>
          obtain ⟨e1, e2⟩ := str0_none ha fun z q => sa ⟨z, q⟩
          simp [g_is_deed_of, semFn_eq, sem_is_deed_of, startE, atI, ixN, isDeed_nostr1 e1, e2]
        obtain ⟨s, rfl⟩ := sa
        have q := val_str.mp ha
        by_cases sb : ∃ z, b = .str z
        case neg =>
          obtain ⟨e1, e2⟩ := str0_none hb fun z q => sb ⟨z, q⟩
          simp [g_is_deed_of, semFn_eq, sem_is_deed_of, startE, atI, ixN, isDeed_nostr2 e1, e2, opIn2 q.2 r1 r2]
        obtain ⟨u, rfl⟩ := sb
        have q2 := val_str.mp hb
        by_cases cs : isSide s = true
        case neg =>
          have cs1 : isSide s = false := by simpa using cs
          have cs2 : ¬ s = "rows" ∧ ¬ s = "slices" := by simpa [isSide] using cs
          simp [g_is_deed_of, semFn_eq, sem_is_deed_of, startE, atI, ixN, opIn2 q.2 r1 r2, opIn2 q2.2 r3 r4, isDeed_noside cs1, cs2]
        have cs2 : s = "rows" ∨ s = "slices" := by simpa [isSide] using cs
        have cs3 : ¬ (¬ s = "rows" ∧ ¬ s = "slices") := by rintro ⟨z1, z2⟩; rcases cs2 with z | z <;> contradiction
        by_cases c1 : u = "back"
        · subst c1; simp [g_is_deed_of, semFn_eq, sem_is_deed_of, startE, atI, ixN, opIn2 q.2 r1 r2, opIn2 q2.2 r3 r4, isDeed, cs, cs3, n1, n2]
        by_cases c2 : u = "roll" ∨ u = "shift"
        case neg =>
          have c3 : ¬ u = "roll" ∧ ¬ u = "shift" := by simpa using c2
          simp [g_is_deed_of, semFn_eq, sem_is_deed_of, startE, atI, ixN, opIn2 q.2 r1 r2, opIn2 q2.2 r3 r4, isDeed, cs, cs3, c1, c3]
        by_cases hN : isNum c (-2) 2 = true
        · obtain ⟨i, rfl, hi⟩ := isNum_int hN
          simp [g_is_deed_of, semFn_eq, sem_is_deed_of, startE, atI, ixN, opIn2 q.2 r1 r2, opIn2 q2.2 r3 r4, isDeed, cs, cs3, c1, c2, is_number_eq hc, hN]
        · have hN : isNum c (-2) 2 = false := by simpa using hN
          simp [g_is_deed_of, semFn_eq, sem_is_deed_of, startE, atI, ixN, opIn2 q.2 r1 r2, opIn2 q2.2 r3 r4, isDeed, cs, cs3, c1, c2, is_number_eq hc, hN]
      | [a, b, c, d], hx =>
        have ha := hx a (by simp)
        have hb := hx b (by simp)
        have hc := hx c (by simp)
        have hd := hx d (by simp)
        by_cases sa : ∃ z, a = .str z
        case neg =>
          obtain ⟨e1, e2⟩ := str0_none ha fun z q => sa ⟨z, q⟩
          simp [g_is_deed_of, semFn_eq, sem_is_deed_of, startE, atI, ixN, isDeed_nostr1 e1, e2]
        obtain ⟨s, rfl⟩ := sa
        have q := val_str.mp ha
        by_cases sb : ∃ z, b = .str z
        case neg =>
          obtain ⟨e1, e2⟩ := str0_none hb fun z q => sb ⟨z, q⟩
          simp [g_is_deed_of, semFn_eq, sem_is_deed_of, startE, atI, ixN, isDeed_nostr2 e1, e2, opIn2 q.2 r1 r2]
        obtain ⟨u, rfl⟩ := sb
        have q2 := val_str.mp hb
        by_cases cs : isSide s = true
        case neg =>
          have cs1 : isSide s = false := by simpa using cs
          have cs2 : ¬ s = "rows" ∧ ¬ s = "slices" := by simpa [isSide] using cs
          simp [g_is_deed_of, semFn_eq, sem_is_deed_of, startE, atI, ixN, opIn2 q.2 r1 r2, opIn2 q2.2 r3 r4, isDeed_noside cs1, cs2]
        have cs2 : s = "rows" ∨ s = "slices" := by simpa [isSide] using cs
        have cs3 : ¬ (¬ s = "rows" ∧ ¬ s = "slices") := by rintro ⟨z1, z2⟩; rcases cs2 with z | z <;> contradiction
        by_cases c4 : u = "turn"
        case neg =>
          have e : isDeed (.tup [.str s, .str u, c, d]) = false := by
            unfold isDeed
            split <;> first | rfl | (rename_i heq; simp at heq; done) | (rename_i heq; simp at heq; obtain ⟨_, rfl, _⟩ := heq; simp [c4])
          by_cases c1 : u = "back"
          · subst c1; simp [g_is_deed_of, semFn_eq, sem_is_deed_of, startE, atI, ixN, opIn2 q.2 r1 r2, opIn2 q2.2 r3 r4, e, cs3]
          · by_cases c2 : u = "roll" ∨ u = "shift"
            · simp [g_is_deed_of, semFn_eq, sem_is_deed_of, startE, atI, ixN, opIn2 q.2 r1 r2, opIn2 q2.2 r3 r4, e, cs3, c1, c2]
            · have c3 : ¬ u = "roll" ∧ ¬ u = "shift" := by simpa using c2
              simp [g_is_deed_of, semFn_eq, sem_is_deed_of, startE, atI, ixN, opIn2 q.2 r1 r2, opIn2 q2.2 r3 r4, e, cs3, c1, c3, c4]
        subst c4
        by_cases hN : isNum c 1 3 = true
        · obtain ⟨i, rfl, hi⟩ := isNum_int hN
          simp [g_is_deed_of, semFn_eq, sem_is_deed_of, startE, atI, ixN, opIn2 q.2 r1 r2, opIn2 q2.2 r3 r4, isDeed, cs, cs3, n3, n4, n5, is_number_eq hc, is_number_eq hd, hN]
        · have hN : isNum c 1 3 = false := by simpa using hN
          have e : isDeed (.tup [.str s, .str "turn", c, d]) = false := by
            unfold isDeed
            split <;> first | rfl | (rename_i heq; simp at heq; done) | (rename_i heq; simp at heq; obtain ⟨_, _, rfl, _⟩ := heq; simp [hN])
          simp [g_is_deed_of, semFn_eq, sem_is_deed_of, startE, atI, ixN, opIn2 q.2 r1 r2, opIn2 q2.2 r3 r4, e, cs3, n3, n4, n5, is_number_eq hc, is_number_eq hd, hN]
  | own k => exact (val_own h).elim
  | ty k => exact (val_ty h).elim
  | gl k => exact (val_gl h).elim
  | _ => simp [g_is_deed_of, semFn_eq, sem_is_deed_of, startE, isDeed]
theorem law_is_deed_eq {w n : Nat} {v : D} {S : Sto} (h : Val w n v) (hw : w ≤ 1000) : g__law_is_deed [v] S = .ok (.bl (isDeed v)) S := by
  obtain ⟨r1, r2, r3, r4, n1, n2, n3, n4, n5, n6, n7, n8, n9, n10, n11, n12, n13, n14⟩ := words
  cases v with
  | tup xs =>
    cases n with
    | zero => exact h.elim
    | succ n =>
      obtain ⟨hl, hx⟩ := h
      match xs, hx with
      | [], _ => simp [g__law_is_deed, semFn_eq, sem__law_is_deed, startE, atI, ixN, isDeed]
      | [a], _ => simp [g__law_is_deed, semFn_eq, sem__law_is_deed, startE, atI, ixN, isDeed]
      | a :: b :: c :: d :: e :: r, hx =>
        have ha := hx a (by simp)
        have hb := hx b (by simp)
        have l0 : ¬ (r.length : Int) + 1 + 1 + 1 + 1 + 1 < 2 := by omega
        have l1 : (0 : Int) < r.length + 1 + 1 + 1 + 1 + 1 := by omega
        have l2 : (1 : Int) < r.length + 1 + 1 + 1 + 1 + 1 := by omega
        have l3 : ¬ (r.length : Int) + 1 + 1 + 1 + 1 + 1 = 2 := by omega
        have l4 : ¬ (r.length : Int) + 1 + 1 + 1 + 1 + 1 = 3 := by omega
        have l5 : ¬ (r.length : Int) + 1 + 1 + 1 + 1 + 1 = 4 := by omega
        by_cases sa : ∃ z, a = .str z
        case neg =>
          obtain ⟨e1, e2⟩ := str0_none ha fun z q => sa ⟨z, q⟩
          simp [l0, l1, l2, l3, l4, l5, g__law_is_deed, semFn_eq, sem__law_is_deed, startE, atI, ixN, isDeed_nostr1 e1, e2]
        obtain ⟨s, rfl⟩ := sa
        have q := val_str.mp ha
        by_cases sb : ∃ z, b = .str z
        case neg =>
          obtain ⟨e1, e2⟩ := str0_none hb fun z q => sb ⟨z, q⟩
          simp [l0, l1, l2, l3, l4, l5, g__law_is_deed, semFn_eq, sem__law_is_deed, startE, atI, ixN, isDeed_nostr2 e1, e2, opIn2 q.2 r1 r2]
        obtain ⟨u, rfl⟩ := sb
        have q2 := val_str.mp hb
        by_cases cs : isSide s = true
        case neg =>
          have cs1 : isSide s = false := by simpa using cs
          have cs2 : ¬ s = "rows" ∧ ¬ s = "slices" := by simpa [isSide] using cs
          simp [l0, l1, l2, l3, l4, l5, g__law_is_deed, semFn_eq, sem__law_is_deed, startE, atI, ixN, opIn2 q.2 r1 r2, opIn2 q2.2 r3 r4, isDeed_noside cs1, cs2]
        have cs2 : s = "rows" ∨ s = "slices" := by simpa [isSide] using cs
        have cs3 : ¬ (¬ s = "rows" ∧ ¬ s = "slices") := by rintro ⟨z1, z2⟩; rcases cs2 with z | z <;> contradiction
        have e0 : isDeed (.tup (.str s :: .str u :: c :: d :: e :: r)) = false := by simp [isDeed]
        by_cases c1 : u = "back"
        · subst c1; simp [g__law_is_deed, semFn_eq, sem__law_is_deed, startE, atI, ixN, opIn2 q.2 r1 r2, opIn2 q2.2 r3 r4, e0, cs3, l0, l1, l2, l3, l4, l5]
        by_cases c2 : u = "roll" ∨ u = "shift"
        · simp [g__law_is_deed, semFn_eq, sem__law_is_deed, startE, atI, ixN, opIn2 q.2 r1 r2, opIn2 q2.2 r3 r4, e0, cs3, c1, c2, l0, l1, l2, l3, l4, l5]
        have c3 : ¬ u = "roll" ∧ ¬ u = "shift" := by simpa using c2
        by_cases c4 : u = "turn"
        · subst c4; simp [g__law_is_deed, semFn_eq, sem__law_is_deed, startE, atI, ixN, opIn2 q.2 r1 r2, opIn2 q2.2 r3 r4, e0, cs3, n3, n4, n5, l0, l1, l2, l3, l4, l5]
        · simp [g__law_is_deed, semFn_eq, sem__law_is_deed, startE, atI, ixN, opIn2 q.2 r1 r2, opIn2 q2.2 r3 r4, e0, cs3, c1, c3, c4, l0, l1, l2, l3, l4, l5]
      | [a, b], hx =>
        have ha := hx a (by simp)
        have hb := hx b (by simp)
        by_cases sa : ∃ z, a = .str z
        case neg =>
          obtain ⟨e1, e2⟩ := str0_none ha fun z q => sa ⟨z, q⟩
          simp [g__law_is_deed, semFn_eq, sem__law_is_deed, startE, atI, ixN, isDeed_nostr1 e1, e2]
        obtain ⟨s, rfl⟩ := sa
        have q := val_str.mp ha
        by_cases sb : ∃ z, b = .str z
        case neg =>
          obtain ⟨e1, e2⟩ := str0_none hb fun z q => sb ⟨z, q⟩
          simp [g__law_is_deed, semFn_eq, sem__law_is_deed, startE, atI, ixN, isDeed_nostr2 e1, e2, opIn2 q.2 r1 r2]
        obtain ⟨u, rfl⟩ := sb
        have q2 := val_str.mp hb
        by_cases cs : isSide s = true
        case neg =>
          have cs1 : isSide s = false := by simpa using cs
          have cs2 : ¬ s = "rows" ∧ ¬ s = "slices" := by simpa [isSide] using cs
          simp [g__law_is_deed, semFn_eq, sem__law_is_deed, startE, atI, ixN, opIn2 q.2 r1 r2, opIn2 q2.2 r3 r4, isDeed_noside cs1, cs2]
        have cs2 : s = "rows" ∨ s = "slices" := by simpa [isSide] using cs
        have cs3 : ¬ (¬ s = "rows" ∧ ¬ s = "slices") := by rintro ⟨z1, z2⟩; rcases cs2 with z | z <;> contradiction
        by_cases c1 : u = "back"
        · subst c1; simp [g__law_is_deed, semFn_eq, sem__law_is_deed, startE, atI, ixN, opIn2 q.2 r1 r2, opIn2 q2.2 r3 r4, isDeed, cs, cs3]
        · simp [g__law_is_deed, semFn_eq, sem__law_is_deed, startE, atI, ixN, opIn2 q.2 r1 r2, opIn2 q2.2 r3 r4, isDeed, cs, cs3, c1]
      | [a, b, c], hx =>
        have ha := hx a (by simp)
        have hb := hx b (by simp)
        have hc := hx c (by simp)
        by_cases sa : ∃ z, a = .str z
        case neg =>
          obtain ⟨e1, e2⟩ := str0_none ha fun z q => sa ⟨z, q⟩
          simp [g__law_is_deed, semFn_eq, sem__law_is_deed, startE, atI, ixN, isDeed_nostr1 e1, e2]
        obtain ⟨s, rfl⟩ := sa
        have q := val_str.mp ha
        by_cases sb : ∃ z, b = .str z
        case neg =>
          obtain ⟨e1, e2⟩ := str0_none hb fun z q => sb ⟨z, q⟩
          simp [g__law_is_deed, semFn_eq, sem__law_is_deed, startE, atI, ixN, isDeed_nostr2 e1, e2, opIn2 q.2 r1 r2]
        obtain ⟨u, rfl⟩ := sb
        have q2 := val_str.mp hb
        by_cases cs : isSide s = true
        case neg =>
          have cs1 : isSide s = false := by simpa using cs
          have cs2 : ¬ s = "rows" ∧ ¬ s = "slices" := by simpa [isSide] using cs
          simp [g__law_is_deed, semFn_eq, sem__law_is_deed, startE, atI, ixN, opIn2 q.2 r1 r2, opIn2 q2.2 r3 r4, isDeed_noside cs1, cs2]
        have cs2 : s = "rows" ∨ s = "slices" := by simpa [isSide] using cs
        have cs3 : ¬ (¬ s = "rows" ∧ ¬ s = "slices") := by rintro ⟨z1, z2⟩; rcases cs2 with z | z <;> contradiction
        by_cases c1 : u = "back"
        · subst c1; simp [g__law_is_deed, semFn_eq, sem__law_is_deed, startE, atI, ixN, opIn2 q.2 r1 r2, opIn2 q2.2 r3 r4, isDeed, cs, cs3, n1, n2]
        by_cases c2 : u = "roll" ∨ u = "shift"
        case neg =>
          have c3 : ¬ u = "roll" ∧ ¬ u = "shift" := by simpa using c2
          simp [g__law_is_deed, semFn_eq, sem__law_is_deed, startE, atI, ixN, opIn2 q.2 r1 r2, opIn2 q2.2 r3 r4, isDeed, cs, cs3, c1, c3]
        by_cases hN : isNum c (-2) 2 = true
        · obtain ⟨i, rfl, hi⟩ := isNum_int hN
          simp [g__law_is_deed, semFn_eq, sem__law_is_deed, startE, atI, ixN, opIn2 q.2 r1 r2, opIn2 q2.2 r3 r4, isDeed, cs, cs3, c1, c2, law_int_eq hc, hN]
        · have hN : isNum c (-2) 2 = false := by simpa using hN
          simp [g__law_is_deed, semFn_eq, sem__law_is_deed, startE, atI, ixN, opIn2 q.2 r1 r2, opIn2 q2.2 r3 r4, isDeed, cs, cs3, c1, c2, law_int_eq hc, hN]
      | [a, b, c, d], hx =>
        have ha := hx a (by simp)
        have hb := hx b (by simp)
        have hc := hx c (by simp)
        have hd := hx d (by simp)
        by_cases sa : ∃ z, a = .str z
        case neg =>
          obtain ⟨e1, e2⟩ := str0_none ha fun z q => sa ⟨z, q⟩
          simp [g__law_is_deed, semFn_eq, sem__law_is_deed, startE, atI, ixN, isDeed_nostr1 e1, e2]
        obtain ⟨s, rfl⟩ := sa
        have q := val_str.mp ha
        by_cases sb : ∃ z, b = .str z
        case neg =>
          obtain ⟨e1, e2⟩ := str0_none hb fun z q => sb ⟨z, q⟩
          simp [g__law_is_deed, semFn_eq, sem__law_is_deed, startE, atI, ixN, isDeed_nostr2 e1, e2, opIn2 q.2 r1 r2]
        obtain ⟨u, rfl⟩ := sb
        have q2 := val_str.mp hb
        by_cases cs : isSide s = true
        case neg =>
          have cs1 : isSide s = false := by simpa using cs
          have cs2 : ¬ s = "rows" ∧ ¬ s = "slices" := by simpa [isSide] using cs
          simp [g__law_is_deed, semFn_eq, sem__law_is_deed, startE, atI, ixN, opIn2 q.2 r1 r2, opIn2 q2.2 r3 r4, isDeed_noside cs1, cs2]
        have cs2 : s = "rows" ∨ s = "slices" := by simpa [isSide] using cs
        have cs3 : ¬ (¬ s = "rows" ∧ ¬ s = "slices") := by rintro ⟨z1, z2⟩; rcases cs2 with z | z <;> contradiction
        by_cases c4 : u = "turn"
        case neg =>
          have e : isDeed (.tup [.str s, .str u, c, d]) = false := by
            unfold isDeed
            split <;> first | rfl | (rename_i heq; simp at heq; done) | (rename_i heq; simp at heq; obtain ⟨_, rfl, _⟩ := heq; simp [c4])
          by_cases c1 : u = "back"
          · subst c1; simp [g__law_is_deed, semFn_eq, sem__law_is_deed, startE, atI, ixN, opIn2 q.2 r1 r2, opIn2 q2.2 r3 r4, e, cs3]
          · by_cases c2 : u = "roll" ∨ u = "shift"
            · simp [g__law_is_deed, semFn_eq, sem__law_is_deed, startE, atI, ixN, opIn2 q.2 r1 r2, opIn2 q2.2 r3 r4, e, cs3, c1, c2]
            · have c3 : ¬ u = "roll" ∧ ¬ u = "shift" := by simpa using c2
              simp [g__law_is_deed, semFn_eq, sem__law_is_deed, startE, atI, ixN, opIn2 q.2 r1 r2, opIn2 q2.2 r3 r4, e, cs3, c1, c3, c4]
        subst c4
        by_cases hN : isNum c 1 3 = true
        · obtain ⟨i, rfl, hi⟩ := isNum_int hN
          simp [g__law_is_deed, semFn_eq, sem__law_is_deed, startE, atI, ixN, opIn2 q.2 r1 r2, opIn2 q2.2 r3 r4, isDeed, cs, cs3, n3, n4, n5, law_int_eq hc, law_int_eq hd, hN]
        · have hN : isNum c 1 3 = false := by simpa using hN
          have e : isDeed (.tup [.str s, .str "turn", c, d]) = false := by
            unfold isDeed
            split <;> first | rfl | (rename_i heq; simp at heq; done) | (rename_i heq; simp at heq; obtain ⟨_, _, rfl, _⟩ := heq; simp [hN])
          simp [g__law_is_deed, semFn_eq, sem__law_is_deed, startE, atI, ixN, opIn2 q.2 r1 r2, opIn2 q2.2 r3 r4, e, cs3, n3, n4, n5, law_int_eq hc, law_int_eq hd, hN]
  | own k => exact (val_own h).elim
  | ty k => exact (val_ty h).elim
  | gl k => exact (val_gl h).elim
  | _ => simp [g__law_is_deed, semFn_eq, sem__law_is_deed, startE, isDeed]
end Sh
namespace Sh
open PySem L2 GB
theorem val_toP {w : Nat} : ∀ {n : Nat} {d : D}, Val w n d → ∃ q, toP d = some q ∧ q.canLay0 = true ∧ q.depth ≤ n
  | n, .non, _ => ⟨_, rfl, rfl, Nat.zero_le _⟩
  | n, .bl b, _ => ⟨_, rfl, rfl, Nat.zero_le _⟩
  | n, .int b, _ => ⟨_, rfl, rfl, Nat.zero_le _⟩
  | n, .str b, h => ⟨_, rfl, (val_str.mp h).2, Nat.zero_le _⟩
  | 0, .tup b, h => h.elim
  | 0, .lst b, h => h.elim
  | n + 1, .tup xs, h => by
    have go : ∀ ys : List D, (∀ y ∈ ys, Val w n y) → ∃ qs, toPs ys = some qs ∧ PyData.canLayAll0 qs = true ∧ PyData.depthAll qs ≤ n := by
      intro ys
      induction ys with
      | nil => intro _; exact ⟨[], rfl, rfl, Nat.zero_le _⟩
      | cons y ys ih =>
        intro hy
        obtain ⟨q, h1, h2, h3⟩ := val_toP (hy y (List.mem_cons_self ..))
        obtain ⟨qs, h4, h5, h6⟩ := ih fun z hz => hy z (List.mem_cons_of_mem _ hz)
        refine ⟨q :: qs, by rw [toPs, h1, h4], ?_, ?_⟩
        · rw [PyData.canLayAll0, h2, h5]; rfl
        · rw [PyData.depthAll]; omega
    obtain ⟨qs, h1, h2, h3⟩ := go xs h.2
    exact ⟨.tuple qs, by rw [toP, h1]; rfl, h2, by rw [PyData.depth]; omega⟩
  | n + 1, .lst xs, h => by
    have go : ∀ ys : List D, (∀ y ∈ ys, Val w n y) → ∃ qs, toPs ys = some qs ∧ PyData.canLayAll0 qs = true ∧ PyData.depthAll qs ≤ n := by
      intro ys
      induction ys with
      | nil => intro _; exact ⟨[], rfl, rfl, Nat.zero_le _⟩
      | cons y ys ih =>
        intro hy
        obtain ⟨q, h1, h2, h3⟩ := val_toP (hy y (List.mem_cons_self ..))
        obtain ⟨qs, h4, h5, h6⟩ := ih fun z hz => hy z (List.mem_cons_of_mem _ hz)
        refine ⟨q :: qs, by rw [toPs, h1, h4], ?_, ?_⟩
        · rw [PyData.canLayAll0, h2, h5]; rfl
        · rw [PyData.depthAll]; omega
    obtain ⟨qs, h1, h2, h3⟩ := go xs h.2
    exact ⟨.list qs, by rw [toP, h1]; rfl, h2, by rw [PyData.depth]; omega⟩
  | n, .own k, h => (val_own h).elim
  | n, .ty k, h => (val_ty h).elim
  | n, .gl k, h => (val_gl h).elim
theorem val_toPs {w n : Nat} : ∀ {ys : List D}, (∀ y ∈ ys, Val w n y) → ∃ qs, toPs ys = some qs ∧ PyData.canLayAll0 qs = true ∧ PyData.depthAll qs ≤ n
  | [], _ => ⟨[], rfl, rfl, Nat.zero_le _⟩
  | y :: ys, hy => by
    obtain ⟨q, h1, h2, h3⟩ := val_toP (hy y (List.mem_cons_self ..))
    obtain ⟨qs, h4, h5, h6⟩ := val_toPs fun z hz => hy z (List.mem_cons_of_mem _ hz)
    refine ⟨q :: qs, by rw [toPs, h1, h4], ?_, ?_⟩
    · rw [PyData.canLayAll0, h2, h5]; rfl
    · rw [PyData.depthAll]; omega
theorem isEmpty_decide (ys : List D) : ys.isEmpty = decide (ys = []) := by cases ys <;> simp
/-- xs == [] -/
theorem opEq_nil {w n : Nat} {S : Sto} {ys : List D} (h : ∀ y ∈ ys, Val w n y) (hn : n ≤ 60) : opEq (.lst ys) (.lst []) S = .ok (.bl ys.isEmpty) S ∧ opNe (.lst ys) (.lst []) S = .ok (.bl !ys.isEmpty) S := by
  obtain ⟨qs, h1, h2, h3⟩ := val_toPs h
  have e : toPS S (.lst ys) = some (.list qs) := by show (toPs ys).map _ = _; rw [h1]; rfl
  have e2 : toPS S (.lst []) = some (.list []) := rfl
  have s1 : SeqAt.shaped (.list qs) = true := by simp [SeqAt.shaped, PyData.canLay0, PyData.depth, h2]; omega
  have s2 : SeqAt.shaped (.list []) = true := rfl
  have e3 : PyData.eqv (.list qs) (.list []) = ys.isEmpty := by
    cases ys with
    | nil => cases h1; rfl
    | cons y ys =>
      cases qs with
      | nil => rw [toPs] at h1; split at h1 <;> cases h1
      | cons q qs => rfl
  have e4 : eqD S (.lst ys) (.lst []) = some ys.isEmpty := by
    have : eqD S (.lst ys) (.lst []) = (match toPS S (.lst ys), toPS S (.lst []) with
      | some a, some b => if SeqAt.shaped a && SeqAt.shaped b then some (PyData.eqv a b) else none
      | _, _ => none) := rfl
    rw [this, e, e2]
    simp only [s1, s2, Bool.and_self, if_true, e3]
  simp [opEq, opNe, e4]
theorem filter_empty (p : D → Bool) (xs : List D) : (xs.filter fun d => !p d).isEmpty = xs.all p := by
  rw [Bool.eq_iff_iff, List.isEmpty_iff, List.filter_eq_nil_iff, List.all_eq_true]
  simp
theorem law_are_woods_eq {w n : Nat} {v : D} {S : Sto} (h : Val w n v) (hw : w ≤ 1000) (hn : n ≤ 50) : g__law_are_woods [v] S = .ok (.bl (areWoods v)) S := by
  cases v with
  | tup xs =>
    cases n with
    | zero => exact h.elim
    | succ n =>
      obtain ⟨hl, hx⟩ := h
      have key : ∀ d ∈ xs, (semOr (sem1 opNot (semCall bIsi (semCons (semVar 1) (semCons (semC (.ty .str)) semNil)))) (sem2 opNotIn (semVar 1) (semLst (semCons (semC (.str "a")) (semCons (semC (.str "b")) (semCons (semC (.str "c")) (semCons (semC (.str "d")) semNil))))))) (([some (D.tup xs), none] : GB.Env).set 1 (some d)) S = .ok (.bl (!isWood d)) S := by
        intro d hd
        have hv := hx d hd
        rcases val_nostr hv with ⟨z, rfl⟩ | q
        · have := (inD_strs (S := S) (ls := woods4) (val_str.mp hv).2 (by decide +kernel)).2
          have e : opNotIn (.str z) (.lst [.str "a", .str "b", .str "c", .str "d"]) S = .ok (.bl !(decide (z ∈ woods4))) S := by
            have : inD S (.str z) (.lst [.str "a", .str "b", .str "c", .str "d"]) = some (decide (z ∈ woods4)) := this
            simp [opNotIn, this]
          simp [e, isWood]
        · have e : isWood d = false := by
            cases d <;> first | rfl | (have := q S; simp at this)
          simp [q, e]
      have key2 : ∀ d ∈ xs, (!isWood d) = true → semVar 1 (([some (D.tup xs), none] : GB.Env).set 1 (some d)) S = .ok d S := fun d _ _ => by simp
      have hl2 : xs.length ≤ 16777216 := by omega
      have e := (opEq_nil (S := S) (ys := xs.filter fun d => !isWood d) (fun y hy => hx y (List.mem_filter.mp hy).1) (by omega)).1
      simp [g__law_are_woods, semFn_eq, sem__law_are_woods, startE, wipeE, areWoods]
      simp only [hl2, if_true, cLoop_filter (f := fun d => d) key key2, bind_ok, finD_eq, List.map_id', e, toS_ok, finR_rt, filter_empty]
      by_cases h1 : 2 ≤ xs.length <;> by_cases h2 : xs.length ≤ 4
      · rw [if_neg (by omega)]; simp [h1, h2]
      · rw [if_pos (by omega)]; simp [h1, h2]
      · rw [if_pos (by omega)]; simp [h1, h2]
      · rw [if_pos (by omega)]; simp [h1, h2]
  | own k => exact (val_own h).elim
  | ty k => exact (val_ty h).elim
  | gl k => exact (val_gl h).elim
  | _ => simp [g__law_are_woods, semFn_eq, sem__law_are_woods, startE, areWoods]
/-! ### plans -/
def isPlan : D → Bool
  | .tup [a, .tup ds] => areWoods a && (decide (ds.length ≤ 6) && ds.all isDeed)
  | _ => false
theorem val_tuple {w n : Nat} {d : D} (h : Val w n d) : (∃ xs, d = .tup xs) ∨ ∀ S, bIsi [d, .ty .tuple] S = .ok (.bl false) S := by
  cases d with
  | tup z => exact .inl ⟨z, rfl⟩
  | own k => exact (val_own h).elim
  | ty k => exact (val_ty h).elim
  | gl k => exact (val_gl h).elim
  | _ => exact .inr fun S => rfl
theorem is_plan_of_eq {w n : Nat} {v : D} {S : Sto} (h : Val w n v) (hw : w ≤ 1000) : g_is_plan_of [v] S = .ok (.bl (isPlan v)) S := by
  rcases val_tuple h with ⟨xs, rfl⟩ | q
  case inr =>
    have e : isPlan v = false := by
      cases v <;> first | rfl | (have := q S; simp at this)
    simp [g_is_plan_of, semFn_eq, sem_is_plan_of, startE, q, e]
  cases n with
  | zero => exact h.elim
  | succ n =>
    obtain ⟨hl, hx⟩ := h
    match xs, hx with
    | [], _ => simp [g_is_plan_of, semFn_eq, sem_is_plan_of, startE, isPlan]
    | [a], _ => simp [g_is_plan_of, semFn_eq, sem_is_plan_of, startE, isPlan]
    | a :: b :: c :: r, _ =>
      have : ¬ (r.length : Int) + 1 + 1 + 1 = 2 := by omega
      simp [g_is_plan_of, semFn_eq, sem_is_plan_of, startE, isPlan, this]
    | [a, b], hx =>
      have ha := hx a (by simp)
      have hb := hx b (by simp)
      cases hA : areWoods a with
      | false =>
        have e : isPlan (.tup [a, b]) = false := by cases b <;> simp [isPlan, hA]
        simp [g_is_plan_of, semFn_eq, sem_is_plan_of, startE, atI, ixN, are_woods_eq ha hw, hA, e]
      | true =>
        rcases val_tuple hb with ⟨ds, rfl⟩ | q
        case inr =>
          have e : isPlan (.tup [a, b]) = false := by
            cases b <;> first | rfl | (have := q S; simp at this)
          simp [g_is_plan_of, semFn_eq, sem_is_plan_of, startE, atI, ixN, are_woods_eq ha hw, hA, e, q]
        cases n with
        | zero => exact hb.elim
        | succ n =>
          obtain ⟨hl2, hd⟩ := hb
          have key : ∀ d ∈ ds, (semCall (fun ds S => if ds.length = 1 then g_is_deed_of ds S else .no) (semCons (semVar 1) semNil)) (([some (D.tup [a, D.tup ds]), none] : GB.Env).set 1 (some d)) S = .ok (.bl (isDeed d)) S := by
            intro d hm
            simp [is_deed_eq (hd d hm) hw]
          have hl3 : ds.length ≤ 16777216 := by omega
          simp [g_is_plan_of, semFn_eq, sem_is_plan_of, startE, atI, ixN, are_woods_eq ha hw, hA, isPlan, wipeE]
          simp only [hl3, if_true, cLoop_map (f := fun d => .bl (isDeed d)) key, bind_ok, finD_eq, bAll_map]
          by_cases h6 : ds.length ≤ 6
          · have : (ds.length : Int) ≤ 6 := by omega
            simp [h6, this]
          · have : ¬ (ds.length : Int) ≤ 6 := by omega
            simp [h6, this]
theorem law_is_plan_eq {w n : Nat} {v : D} {S : Sto} (h : Val w n v) (hw : w ≤ 1000) (hn : n ≤ 50) : g__law_is_plan [v] S = .ok (.bl (isPlan v)) S := by
  rcases val_tuple h with ⟨xs, rfl⟩ | q
  case inr =>
    have e : isPlan v = false := by
      cases v <;> first | rfl | (have := q S; simp at this)
    simp [g__law_is_plan, semFn_eq, sem__law_is_plan, startE, q, e]
  cases n with
  | zero => exact h.elim
  | succ n =>
    obtain ⟨hl, hx⟩ := h
    match xs, hx with
    | [], _ => simp [g__law_is_plan, semFn_eq, sem__law_is_plan, startE, isPlan]
    | [a], _ => simp [g__law_is_plan, semFn_eq, sem__law_is_plan, startE, isPlan]
    | a :: b :: c :: r, _ =>
      have : ¬ (r.length : Int) + 1 + 1 + 1 = 2 := by omega
      simp [g__law_is_plan, semFn_eq, sem__law_is_plan, startE, isPlan, this]
    | [a, b], hx =>
      have ha := hx a (by simp)
      have hb := hx b (by simp)
      cases hA : areWoods a with
      | false =>
        have e : isPlan (.tup [a, b]) = false := by cases b <;> simp [isPlan, hA]
        simp [g__law_is_plan, semFn_eq, sem__law_is_plan, startE, atI, ixN, law_are_woods_eq ha hw (by omega), hA, e]
      | true =>
        rcases val_tuple hb with ⟨ds, rfl⟩ | q
        case inr =>
          have e : isPlan (.tup [a, b]) = false := by
            cases b <;> first | rfl | (have := q S; simp at this)
          simp [g__law_is_plan, semFn_eq, sem__law_is_plan, startE, atI, ixN, law_are_woods_eq ha hw (by omega), hA, e, q]
        cases n with
        | zero => exact hb.elim
        | succ n =>
          obtain ⟨hl2, hd⟩ := hb
          have key : ∀ d ∈ ds, (sem1 opNot (semCall (fun ds S => if ds.length = 1 then g__law_is_deed ds S else .no) (semCons (semVar 1) semNil))) (([some (D.tup [a, D.tup ds]), none] : GB.Env).set 1 (some d)) S = .ok (.bl (!isDeed d)) S := by
            intro d hm
            simp [law_is_deed_eq (hd d hm) hw]
          have key2 : ∀ d ∈ ds, (!isDeed d) = true → semVar 1 (([some (D.tup [a, D.tup ds]), none] : GB.Env).set 1 (some d)) S = .ok d S := fun d _ _ => by simp
          have hl3 : ds.length ≤ 16777216 := by omega
          have e := (opEq_nil (S := S) (ys := ds.filter fun d => !isDeed d) (fun y hy => hd y (List.mem_filter.mp hy).1) (by omega)).1
          simp [g__law_is_plan, semFn_eq, sem__law_is_plan, startE, atI, ixN, law_are_woods_eq ha hw (by omega), hA, isPlan, wipeE]
          simp only [hl3, if_true, cLoop_filter (f := fun d => d) key key2, bind_ok, finD_eq, List.map_id', e, toS_ok, finR_rt, filter_empty]
          by_cases h6 : ds.length ≤ 6
          · have : ¬ 6 < (ds.length : Int) := by omega
            simp [h6, this]
          · have : 6 < (ds.length : Int) := by omega
            simp [h6, this]
end Sh
namespace Sh
open PySem L2 GB
/-! ### deeds, plans as they are -/
inductive Deed where
  | back (s : Bool)
  | move (s sh : Bool) (i : Int)
  | turn (s : Bool) (m r : Int)
def sd : Bool → Str
  | true => "rows"
  | false => "slices"
def mv : Bool → Str
  | true => "shift"
  | false => "roll"
def Deed.d : Deed → D
  | .back s => .tup [.str (sd s), .str "back"]
  | .move s b i => .tup [.str (sd s), .str (mv b), .int i]
  | .turn s m r => .tup [.str (sd s), .str "turn", .int m, .int r]
def Deed.Ok : Deed → Prop
  | .back _ => True
  | .move _ _ i => -2 ≤ i ∧ i ≤ 2 ∧ i ≠ 0
  | .turn _ m r => 1 ≤ m ∧ m ≤ 3 ∧ 0 ≤ r ∧ r < m
def Deed.un : Deed → Deed
  | .move s b i => .move s b (-i)
  | d => d
theorem isSide_sd {s : Str} (h : isSide s = true) : ∃ b, s = sd b := by
  simp only [isSide, Bool.or_eq_true, decide_eq_true_eq] at h
  rcases h with h | h
  · exact ⟨true, h⟩
  · exact ⟨false, h⟩
theorem isDeed_of (x : Deed) (h : x.Ok) : isDeed x.d = true := by
  have s1 : ∀ b, isSide (sd b) = true := by intro b; cases b <;> decide +kernel
  cases x with
  | back s => simp [Deed.d, isDeed, s1]
  | move s b i =>
    obtain ⟨h1, h2, h3⟩ := h
    cases b <;> simp [Deed.d, isDeed, s1, mv, isNum, h1, h2, h3]
  | turn s m r =>
    obtain ⟨h1, h2, h3, h4⟩ := h
    simp [Deed.d, isDeed, s1, isNum, h1, h2, h3]
    omega
theorem isDeed_deed {d : D} (h : isDeed d = true) : ∃ x : Deed, x.Ok ∧ d = x.d := by
  unfold isDeed at h
  split at h
  · rename_i s w
    simp only [Bool.and_eq_true, decide_eq_true_eq] at h
    obtain ⟨b, rfl⟩ := isSide_sd h.1
    obtain rfl := h.2
    exact ⟨.back b, trivial, rfl⟩
  · rename_i s w x
    simp only [Bool.and_eq_true, Bool.or_eq_true, decide_eq_true_eq] at h
    obtain ⟨h1, h2, h3, h4⟩ := h
    obtain ⟨b, rfl⟩ := isSide_sd h1
    obtain ⟨i, rfl, h5, h6⟩ := isNum_int h3
    have h7 : i ≠ 0 := by simpa using h4
    rcases h2 with rfl | rfl
    · exact ⟨.move b false i, ⟨h5, h6, h7⟩, rfl⟩
    · exact ⟨.move b true i, ⟨h5, h6, h7⟩, rfl⟩
  · rename_i s w m y
    simp only [Bool.and_eq_true, decide_eq_true_eq] at h
    obtain ⟨h1, h2, h3, h4⟩ := h
    obtain ⟨b, rfl⟩ := isSide_sd h1
    obtain rfl := h2
    obtain ⟨_, hm, h5, h6⟩ := isNum_int h3
    cases hm
    obtain ⟨r, rfl, h7, h8⟩ := isNum_int h4
    exact ⟨.turn b m r, ⟨h5, h6, h7, by omega⟩, rfl⟩
  · cases h
theorem deeds_of {ds : List D} (h : ds.all isDeed = true) : ∃ xs : List Deed, (∀ x ∈ xs, x.Ok) ∧ ds = xs.map Deed.d := by
  induction ds with
  | nil => exact ⟨[], by simp, rfl⟩
  | cons d ds ih =>
    simp only [List.all_cons, Bool.and_eq_true] at h
    obtain ⟨x, hx, rfl⟩ := isDeed_deed h.1
    obtain ⟨xs, hxs, rfl⟩ := ih h.2
    exact ⟨x :: xs, by intro y hy; rcases List.mem_cons.mp hy with rfl | hy; exact hx; exact hxs y hy, rfl⟩
theorem undone_eq {S : Sto} (x : Deed) : g_undone [x.d] S = .ok x.un.d S := by
  obtain ⟨r1, r2, r3, r4, n1, n2, n3, n4, n5, n6, n7, n8, n9, n10, n11, n12, n13, n14⟩ := words
  have r5 : PyData.strOk "back" = true := by decide +kernel
  have r6 : PyData.strOk "turn" = true := by decide +kernel
  cases x with
  | back s => simp [g_undone, semFn_eq, sem_undone, startE, Deed.d, Deed.un, atI, ixN, opIn2 r5 r3 r4, n1, n2]
  | turn s m r => simp [g_undone, semFn_eq, sem_undone, startE, Deed.d, Deed.un, atI, ixN, opIn2 r6 r3 r4, n3, n4]
  | move s b i => cases b <;> simp [g_undone, semFn_eq, sem_undone, startE, Deed.d, Deed.un, atI, ixN, mv, opIn2 r3 r3 r4, opIn2 r4 r3 r4, n11, n12]
/-- a plan: its woods, its deeds -/
def planD (ws : List D) (xs : List Deed) : D := .tup [.tup ws, .tup (xs.map Deed.d)]
theorem isPlan_plan {v : D} (h : isPlan v = true) : ∃ ws xs, v = planD ws xs ∧ areWoods (.tup ws) = true ∧ xs.length ≤ 6 ∧ ∀ x ∈ xs, x.Ok := by
  unfold isPlan at h
  split at h
  · rename_i a ds
    simp only [Bool.and_eq_true, decide_eq_true_eq] at h
    obtain ⟨h1, h2, h3⟩ := h
    obtain ⟨xs, hxs, rfl⟩ := deeds_of h3
    cases a with
    | tup ws => exact ⟨ws, xs, rfl, h1, by simpa using h2, hxs⟩
    | _ => simp [areWoods] at h1
  · cases h
theorem isPlan_of {ws : List D} {xs : List Deed} (h1 : areWoods (.tup ws) = true) (h2 : xs.length ≤ 6) (h3 : ∀ x ∈ xs, x.Ok) : isPlan (planD ws xs) = true := by
  simp only [planD, isPlan, h1, Bool.true_and, Bool.and_eq_true, decide_eq_true_eq]
  refine ⟨by simpa using h2, List.all_eq_true.mpr fun d hd => ?_⟩
  obtain ⟨x, hx, rfl⟩ := List.mem_map.mp hd
  exact isDeed_of x (h3 x hx)
theorem need_plan_eq {w n : Nat} {v : D} {S : Sto} (h : Val w n v) (hw : w ≤ 1000) : g_need_plan [v] S = if isPlan v = true then .ok .non S else .ex ⟨"InvalidPlan", []⟩ S := by
  cases hp : isPlan v <;> simp [g_need_plan, semFn_eq, sem_need_plan, startE, is_plan_of_eq h hw, hp]
theorem undoing_eq {w n : Nat} {v : D} {S : Sto} (h : Val w n v) (hw : w ≤ 1000) (hp : isPlan v = false) : g_undoing [v] S = .ex ⟨"InvalidPlan", []⟩ S := by
  simp [g_undoing, semFn_eq, sem_undoing, startE, need_plan_eq h hw, hp]
theorem undoing_plan {w n : Nat} {ws : List D} {xs : List Deed} {S : Sto} (h : Val w n (planD ws xs)) (hw : w ≤ 1000) (hp : isPlan (planD ws xs) = true) (hl : xs.length ≤ 6) : g_undoing [planD ws xs] S = .ok (.tup (xs.reverse.map fun x => x.un.d)) S := by
  have key : ∀ d ∈ xs.map Deed.d, (semCall (fun ds S => if ds.length = 1 then g_undone ds S else .no) (semCons (semVar 1) semNil)) (([some (planD ws xs), none] : GB.Env).set 1 (some d)) S = .ok ((fun d => match g_undone [d] S with | .ok e _ => e | _ => .non) d) S := by
    intro d hd
    obtain ⟨x, hx, rfl⟩ := List.mem_map.mp hd
    simp [undone_eq]
  have hl3 : (xs.map Deed.d).length ≤ 16777216 := by simp; omega
  have e : (xs.map Deed.d).map (fun d => match g_undone [d] S with | .ok e _ => e | _ => .non) = xs.map fun x => x.un.d := by
    rw [List.map_map]
    apply List.map_congr_left
    intro x _
    simp [undone_eq]
  have q : cLoop (gNm 1) (semC (.bl true)) (semCall (fun ds S => if ds.length = 1 then g_undone ds S else .no) (semCons (semVar 1) semNil)) [some (planD ws xs), none] (xs.map Deed.d) S = .ok (xs.map fun x => x.un.d) S := by
    have := cLoop_map key
    rw [e] at this
    exact this
  have i1 : opIx (planD ws xs) (.int 1) S = .ok (.tup (xs.map Deed.d)) S := by simp [planD, atI, ixN]
  have hl4 : xs.length ≤ 16777216 := by omega
  simp [g_undoing, semFn_eq, sem_undoing, startE, need_plan_eq h hw, hp, i1, wipeE, q, opRev, bTuple, lstOf, hl4]
end Sh
namespace Sh
open PySem L2 GB
/-! ### what is drawn -/
def St (k : Nat) (S : Sto) : Prop := ∃ a b, S[k]? = some (.lst [.int a, .int b]) ∧ 0 ≤ b ∧ b < 2147483648
def Up (k : Nat) (S S1 : Sto) : Prop := ∃ a b, S1 = S.set k (.lst [.int a, .int b]) ∧ 0 ≤ b ∧ b < 2147483648
section
variable {k : Nat} {S S1 S2 : Sto}
theorem St.lt (h : St k S) : k < S.length := by
  obtain ⟨a, b, h, _⟩ := h
  exact (List.getElem?_eq_some_iff.mp h).1
theorem Up.st (h : Up k S S1) (hs : St k S) : St k S1 := by
  obtain ⟨a, b, rfl, h0, h1⟩ := h
  exact ⟨a, b, by rw [List.getElem?_set_self hs.lt], h0, h1⟩
theorem Up.trans (h : Up k S S1) (g : Up k S1 S2) : Up k S S2 := by
  obtain ⟨a, b, rfl, h0, h1⟩ := h
  obtain ⟨c, d, rfl, g0, g1⟩ := g
  exact ⟨c, d, by rw [List.set_set], g0, g1⟩
theorem Up.refl (h : St k S) : Up k S S := by
  obtain ⟨a, b, h, h0, h1⟩ := h
  refine ⟨a, b, ?_, h0, h1⟩
  apply List.ext_getElem?
  intro j
  by_cases e : k = j
  · subst e
    rw [List.getElem?_set_self (List.getElem?_eq_some_iff.mp h).1, h]
  · rw [List.getElem?_set_ne e]
theorem Up.len (h : Up k S S1) : S1.length = S.length := by
  obtain ⟨a, b, rfl, _⟩ := h
  simp
/-- the stack stays where it is, other things too -/
theorem Up.get (h : Up k S S1) {j : Nat} (hj : k ≠ j) : S1[j]? = S[j]? := by
  obtain ⟨a, b, rfl, _⟩ := h
  rw [List.getElem?_set_ne hj]
/-- a drawing's end -/
def Dr (k : Nat) (S : Sto) (r : R D) (P : D → Prop) : Prop := ∃ d S1, r = .ok d S1 ∧ Up k S S1 ∧ P d
def DrA (k : Nat) (S : Sto) (r : R (List D)) (P : List D → Prop) : Prop := ∃ d S1, r = .ok d S1 ∧ Up k S S1 ∧ P d
theorem saw_eq {m : Int} (hs : St k S) (h0 : 0 < m) (h1 : m < 2 ^ 200) : Dr k S (g__law_saw [.own k, .int m] S) fun d => ∃ r, d = .int r ∧ 0 ≤ r ∧ r < m := by
  have hlt := hs.lt
  obtain ⟨a, b, hk, hb0, hb1⟩ := hs
  have hlog : m.natAbs.log2 < 9000 := by
    have : m.natAbs < 2 ^ 200 := by omega
    have := (Nat.log2_lt (by omega : m.natAbs ≠ 0)).mpr (show m.natAbs < 2 ^ 9000 from Nat.lt_of_lt_of_le this (Nat.pow_le_pow_right (by omega) (by omega)))
    exact this
  have i0 : ∀ S : Sto, ∀ a b : Int, S[k]? = some (.lst [.int a, .int b]) → opIx (.own k) (.int 0) S = .ok (.int a) S := by
    intro S a b h; simp [opIx, seqOf, lstOf, h, atI, ixN]
  have i1 : ∀ S : Sto, ∀ a b : Int, S[k]? = some (.lst [.int a, .int b]) → opIx (.own k) (.int 1) S = .ok (.int b) S := by
    intro S a b h; simp [opIx, seqOf, lstOf, h, atI, ixN]
  have s0 : ∀ S : Sto, ∀ a b c : Int, S[k]? = some (.lst [.int a, .int b]) → opSet (.own k) (.int 0) (.int c) S = some (S.set k (.lst [.int c, .int b])) := by
    intro S a b c h; simp [opSet, h, ixN]
  have s1 : ∀ S : Sto, ∀ a b c : Int, S[k]? = some (.lst [.int a, .int b]) → opSet (.own k) (.int 1) (.int c) S = some (S.set k (.lst [.int a, .int c])) := by
    intro S a b c h; simp [opSet, h, ixN]
  by_cases ha : 0 < a
  · refine ⟨.int (a % m), S.set k (.lst [.int (a / m), .int b]), ?_, ⟨_, _, rfl, hb0, hb1⟩, _, rfl, Int.emod_nonneg _ (by omega), Int.emod_lt_of_pos _ h0⟩
    simp [g__law_saw, semFn_eq, sem__law_saw, startE, i0 S a b hk, ha, opMod, h0, opDiv, hlog, s0 S a b _ hk]
  · generalize hb' : (b * 41358 + 4001) % 2147483549 = b'
    have hb2 : 0 ≤ b' ∧ b' < 2147483549 := by omega
    have hk2 : (S.set k (.lst [.int a, .int b']))[k]? = some (.lst [.int a, .int b']) := by rw [List.getElem?_set_self hlt]
    refine ⟨.int ((b' * (b' + 53)) % 2147483587 / 557 % m), S.set k (.lst [.int a, .int b']), ?_, ⟨_, _, rfl, hb2.1, by omega⟩, _, rfl, Int.emod_nonneg _ (by omega), Int.emod_lt_of_pos _ h0⟩
    have c1 : -18446744073709551616 < b' ∧ b' < 18446744073709551616 := by omega
    have hlog2 : (557 : Int).natAbs.log2 < 9000 := by decide
    simp [g__law_saw, semFn_eq, sem__law_saw, startE, i0 S a b hk, i1 S a b hk, ha, opMod, h0, opDiv, s1 S a b _ hk, hb', i1 _ a b' hk2, c1]
    intro z
    exact absurd z (by decide)
theorem atI_nat {xs : List D} {r : Int} (h0 : 0 ≤ r) (h1 : r < xs.length) : ∃ d, atI xs r = some d ∧ d ∈ xs := by
  have hr : r.toNat < xs.length := by omega
  refine ⟨xs[r.toNat], ?_, List.getElem_mem hr⟩
  simp [atI, ixN, h0, h1, hr]
theorem pick_eq {xs : List D} {t : D} (ht : t = .lst xs ∨ t = .tup xs) (hs : St k S) (h0 : xs ≠ []) (h1 : xs.length < 2 ^ 24) : Dr k S (g__law_pick [.own k, t] S) fun d => d ∈ xs := by
  have hl : 0 < xs.length := List.length_pos_iff.mpr h0
  obtain ⟨d, S1, e, hu, r, rfl, hr0, hr1⟩ := saw_eq (m := xs.length) hs (by omega) (by omega)
  obtain ⟨d, hd, hm⟩ := atI_nat hr0 hr1
  refine ⟨d, S1, ?_, hu, hm⟩
  rcases ht with rfl | rfl <;> simp [g__law_pick, semFn_eq, sem__law_pick, startE, e, hd]
/-- a comprehension whose items are drawn -/
theorem cLoop_draw {i : Nat} {ρ : GB.Env} {fe : Sem} {P : D → Prop} : ∀ {ds : List D} {S : Sto}, St k S → (∀ d ∈ ds, ∀ S, St k S → Dr k S (fe (ρ.set i (some d)) S) P) → DrA k S (cLoop (gNm i) (semC (.bl true)) fe ρ ds S) fun ys => ys.length = ds.length ∧ ∀ y ∈ ys, P y
  | [], S, hs, _ => ⟨[], S, rfl, Up.refl hs, rfl, by simp⟩
  | d :: ds, S, hs, h => by
    obtain ⟨y, S1, e1, u1, p1⟩ := h d (List.mem_cons_self ..) S hs
    obtain ⟨ys, S2, e2, u2, l2, p2⟩ := cLoop_draw (ds := ds) (S := S1) (u1.st hs) fun e he => h e (List.mem_cons_of_mem _ he)
    refine ⟨y :: ys, S2, ?_, u1.trans u2, by simp [l2], fun z hz => ?_⟩
    · unfold cLoop
      simp [e1, e2]
    · rcases List.mem_cons.mp hz with rfl | hz
      · exact p1
      · exact p2 z hz
theorem deed_eq (hs : St k S) : Dr k S (g__law_deed [.own k] S) fun d => ∃ x : Deed, x.Ok ∧ d = x.d := by
  obtain ⟨d1, S1, e1, u1, p1⟩ := pick_eq (t := .lst [.str "rows", .str "slices", .str "slices"]) (.inl rfl) hs (by simp) (by simp)
  have hd1 : ∃ b, d1 = .str (sd b) := by
    simp only [List.mem_cons, List.not_mem_nil, or_false] at p1
    rcases p1 with rfl | rfl | rfl
    · exact ⟨true, rfl⟩
    · exact ⟨false, rfl⟩
    · exact ⟨false, rfl⟩
  obtain ⟨b, rfl⟩ := hd1
  have hs1 := u1.st hs
  obtain ⟨_, S2, e2, u2, w, rfl, w0, w1⟩ := saw_eq (m := 5) hs1 (by omega) (by omega)
  have hs2 := u2.st hs1
  by_cases c1 : w < 2
  · obtain ⟨_, S3, e3, u3, v, rfl, v0, v1⟩ := saw_eq (m := 3) hs2 (by omega) (by omega)
    have hs3 := u3.st hs2
    obtain ⟨_, S4, e4, u4, r, rfl, r0, r1⟩ := saw_eq (m := 1 + v) hs3 (by omega) (by omega)
    refine ⟨_, S4, ?_, ((u1.trans u2).trans u3).trans u4, .turn b (1 + v) r, ⟨by omega, by omega, r0, r1⟩, rfl⟩
    simp [g__law_deed, semFn_eq, sem__law_deed, startE, e1, e2, c1, e3, e4, Deed.d]
  · by_cases c2 : w = 2
    · refine ⟨_, S2, ?_, u1.trans u2, .back b, trivial, rfl⟩
      simp [g__law_deed, semFn_eq, sem__law_deed, startE, e1, e2, c2, Deed.d]
    · obtain ⟨d3, S3, e3, u3, p3⟩ := pick_eq (t := .lst [.int (-2), .int (-1), .int 1, .int 2]) (.inl rfl) hs2 (by simp) (by simp)
      have hd3 : ∃ i : Int, d3 = .int i ∧ -2 ≤ i ∧ i ≤ 2 ∧ i ≠ 0 := by
        simp only [List.mem_cons, List.not_mem_nil, or_false] at p3
        rcases p3 with rfl | rfl | rfl | rfl
        · exact ⟨-2, rfl, by omega⟩
        · exact ⟨-1, rfl, by omega⟩
        · exact ⟨1, rfl, by omega⟩
        · exact ⟨2, rfl, by omega⟩
      obtain ⟨i, rfl, hi⟩ := hd3
      by_cases c3 : w = 3
      · refine ⟨_, S3, ?_, (u1.trans u2).trans u3, .move b false i, hi, rfl⟩
        simp [g__law_deed, semFn_eq, sem__law_deed, startE, e1, e2, c1, c2, c3, e3, Deed.d, mv]
      · refine ⟨_, S3, ?_, (u1.trans u2).trans u3, .move b true i, hi, rfl⟩
        simp [g__law_deed, semFn_eq, sem__law_deed, startE, e1, e2, c1, c2, c3, e3, Deed.d, mv]
theorem woods_eq {m : Int} (hs : St k S) (h0 : 2 ≤ m) (h1 : m ≤ 4) : Dr k S (g__law_woods [.own k, .int m] S) fun d => ∃ ws : List D, d = .tup ws ∧ 2 ≤ ws.length ∧ ws.length ≤ m.toNat ∧ ∀ x ∈ ws, isWood x = true := by
  obtain ⟨_, S1, e1, u1, w, rfl, w0, w1⟩ := saw_eq (m := m - 1) hs (by omega) (by omega)
  have hs1 := u1.st hs
  obtain ⟨_, S2, e2, u2, v, rfl, v0, v1⟩ := saw_eq (m := 3) hs1 (by omega) (by omega)
  have hs2 := u2.st hs1
  by_cases c1 : 0 < v
  · have hw : w = 0 ∨ w = 1 ∨ w = 2 := by omega
    have t2 : cutD [.str "a", .str "b", .str "c", .str "d"] none (some 2) = [.str "a", .str "b"] := by rfl
    have t3 : cutD [.str "a", .str "b", .str "c", .str "d"] none (some 3) = [.str "a", .str "b", .str "c"] := by rfl
    have t4 : cutD [.str "a", .str "b", .str "c", .str "d"] none (some 4) = [.str "a", .str "b", .str "c", .str "d"] := by rfl
    have wood : ∀ z ∈ woods4, isWood (.str z) = true := fun z hz => by simp [isWood, hz]
    rcases hw with rfl | rfl | rfl
    · refine ⟨_, S2, ?_, u1.trans u2, [.str "a", .str "b"], rfl, by simp, by simp; omega, by decide +kernel⟩
      simp [g__law_woods, semFn_eq, sem__law_woods, startE, e1, e2, c1, semSl, OEx.run, opSl, t2]
    · refine ⟨_, S2, ?_, u1.trans u2, [.str "a", .str "b", .str "c"], rfl, by simp, by simp; omega, by decide +kernel⟩
      simp [g__law_woods, semFn_eq, sem__law_woods, startE, e1, e2, c1, semSl, OEx.run, opSl, t3]
    · refine ⟨_, S2, ?_, u1.trans u2, [.str "a", .str "b", .str "c", .str "d"], rfl, by simp, by simp; omega, by decide +kernel⟩
      simp [g__law_woods, semFn_eq, sem__law_woods, startE, e1, e2, c1, semSl, OEx.run, opSl, t4]
  · obtain ⟨ys, S3, e3, u3, l3, p3⟩ := cLoop_draw (k := k) (i := 3) (ρ := [some (.own k), some (.int m), some (.int (2 + w)), none]) (fe := semCall (fun ds S => if ds.length = 2 then g__law_pick ds S else .no) (semCons (semVar 0) (semCons (semLst (semCons (semC (.str "a")) (semCons (semC (.str "b")) (semCons (semC (.str "c")) (semCons (semC (.str "d")) semNil))))) semNil)))
      (P := fun d => isWood d = true) (ds := (List.range (2 + w).toNat).map fun i => .int (i : Nat)) hs2 fun d _ S hs => by
        obtain ⟨d1, S1, e1, u1, p1⟩ := pick_eq (t := .lst [.str "a", .str "b", .str "c", .str "d"]) (.inl rfl) hs (by simp) (by simp)
        refine ⟨d1, S1, by simp [e1], u1, ?_⟩
        simp only [List.mem_cons, List.not_mem_nil, or_false] at p1
        rcases p1 with rfl | rfl | rfl | rfl <;> decide +kernel
    have hl3 : ys.length = (2 + w).toNat := by simpa using l3
    have b1 : -(2 ^ 62) ≤ 2 + w ∧ 2 + w < 2 ^ 62 := by omega
    have b2 : (2 + w).toNat ≤ 16777216 := by omega
    refine ⟨_, S3, ?_, (u1.trans u2).trans u3, ys, rfl, by omega, by omega, p3⟩
    simp [g__law_woods, semFn_eq, sem__law_woods, startE, e1, e2, c1, bRange1_ok b1, b2, wipeE, e3, bTuple, lstOf]
/-- a drawn plan -/
def PlanIn (most deeds : Int) (d : D) : Prop := ∃ ws xs, d = planD ws xs ∧ 2 ≤ ws.length ∧ ws.length ≤ most.toNat ∧ (∀ x ∈ ws, isWood x = true) ∧ xs.length ≤ deeds.toNat ∧ ∀ x ∈ xs, Deed.Ok x
theorem deeds_list {ds : List D} (h : ∀ d ∈ ds, ∃ x : Deed, x.Ok ∧ d = x.d) : ∃ xs : List Deed, (∀ x ∈ xs, x.Ok) ∧ ds = xs.map Deed.d := by
  induction ds with
  | nil => exact ⟨[], by simp, rfl⟩
  | cons d ds ih =>
    obtain ⟨x, hx, rfl⟩ := h d (List.mem_cons_self ..)
    obtain ⟨xs, hxs, rfl⟩ := ih fun e he => h e (List.mem_cons_of_mem _ he)
    exact ⟨x :: xs, by intro y hy; rcases List.mem_cons.mp hy with rfl | hy; exact hx; exact hxs y hy, rfl⟩
theorem plan_eq {m q : Int} (hs : St k S) (h0 : 2 ≤ m) (h1 : m ≤ 4) (q0 : 0 ≤ q) (q1 : q ≤ 1000) : Dr k S (g__law_plan [.own k, .int m, .int q] S) (PlanIn m q) := by
  obtain ⟨_, S1, e1, u1, ws, rfl, w0, w1, w2⟩ := woods_eq hs h0 h1
  have hs1 := u1.st hs
  obtain ⟨_, S2, e2, u2, v, rfl, v0, v1⟩ := saw_eq (m := q + 1) hs1 (by omega) (by omega)
  have hs2 := u2.st hs1
  obtain ⟨ys, S3, e3, u3, l3, p3⟩ := cLoop_draw (k := k) (i := 4) (ρ := [some (.own k), some (.int m), some (.int q), some (.tup ws), none]) (fe := semCall (fun ds S => if ds.length = 1 then g__law_deed ds S else .no) (semCons (semVar 0) semNil))
      (P := fun d => ∃ x : Deed, x.Ok ∧ d = x.d) (ds := (List.range v.toNat).map fun i => .int (i : Nat)) hs2 fun d _ S hs => by
        obtain ⟨d1, S1, e1, u1, p1⟩ := deed_eq hs
        exact ⟨d1, S1, by simp [e1], u1, p1⟩
  obtain ⟨xs, hx, rfl⟩ := deeds_list p3
  have hl3 : xs.length = v.toNat := by simpa using l3
  have b1 : -(2 ^ 62) ≤ v ∧ v < 2 ^ 62 := by omega
  have b2 : v.toNat ≤ 16777216 := by omega
  refine ⟨_, S3, ?_, (u1.trans u2).trans u3, ws, xs, rfl, w0, w1, w2, by omega, hx⟩
  simp [g__law_plan, semFn_eq, sem__law_plan, startE, e1, e2, bRange1_ok b1, b2, wipeE, e3, bTuple, lstOf, planD]
/-! ### bent values -/
theorem val_mono {w : Nat} : ∀ {n m : Nat} {d : D}, Val w n d → n ≤ m → ∀ {w' : Nat}, w ≤ w' → Val w' m d
  | n, m, .non, _, _, w', _ => by cases m <;> trivial
  | n, m, .bl b, _, _, w', _ => by cases m <;> trivial
  | n, m, .int b, _, _, w', _ => by cases m <;> trivial
  | n, m, .str b, h, _, w', hw => by
    have := val_str.mp h
    exact val_str.mpr ⟨by omega, this.2⟩
  | 0, m, .tup b, h, _, _, _ => h.elim
  | 0, m, .lst b, h, _, _, _ => h.elim
  | n + 1, m + 1, .tup xs, h, hm, w', hw => ⟨by have := h.1; omega, fun x hx => val_mono (h.2 x hx) (by omega) hw⟩
  | n + 1, m + 1, .lst xs, h, hm, w', hw => ⟨by have := h.1; omega, fun x hx => val_mono (h.2 x hx) (by omega) hw⟩
  | n + 1, 0, .tup b, h, hm, _, _ => absurd hm (by omega)
  | n + 1, 0, .lst b, h, hm, _, _ => absurd hm (by omega)
  | n, _, .own k, h, _, _, _ => (val_own h).elim
  | n, _, .ty k, h, _, _, _ => (val_ty h).elim
  | n, _, .gl k, h, _, _, _ => (val_gl h).elim
theorem odd_eq (hs : St k S) : Dr k S (g__law_odd [.own k] S) (Val 10 3) := by
  obtain ⟨d, S1, e1, u1, p1⟩ := pick_eq (t := .lst [.non, .bl true, .bl false, .int 0, .int 1, .int 2, .int 3, .int 5, .int (-1), .int 1000000000000000000000000000000, .str "", .str "a", .str "rows", .str "back", .str "ab", .tup [], .lst [], .tup [.str "a", .str "b"], .tup [.int 0, .int 1],
    .tup [.str "rows", .str "back"], .tup [.str "slices", .str "turn", .int 1, .int 0], .tup [.tup [.str "a", .str "b"], .tup []], .str "aa"]) (.inl rfl) hs (by simp) (by simp)
  refine ⟨d, S1, ?_, u1, ?_⟩
  · simp [g__law_odd, semFn_eq, sem__law_odd, startE, opPow, opAdd, lstOf, e1]
  · have a : PyData.strOk "a" = true := by decide +kernel
    have b : PyData.strOk "b" = true := by decide +kernel
    have c : PyData.strOk "rows" = true := by decide +kernel
    have d' : PyData.strOk "back" = true := by decide +kernel
    have e : PyData.strOk "ab" = true := by decide +kernel
    have f : PyData.strOk "slices" = true := by decide +kernel
    have g : PyData.strOk "turn" = true := by decide +kernel
    have h : PyData.strOk "aa" = true := by decide +kernel
    have i : PyData.strOk "" = true := by decide +kernel
    have la : ("a" : Str).length = 1 := by decide +kernel
    have lb : ("b" : Str).length = 1 := by decide +kernel
    have lc : ("rows" : Str).length = 4 := by decide +kernel
    have ld : ("back" : Str).length = 4 := by decide +kernel
    have le : ("ab" : Str).length = 2 := by decide +kernel
    have lf : ("slices" : Str).length = 6 := by decide +kernel
    have lg : ("turn" : Str).length = 4 := by decide +kernel
    have lh : ("aa" : Str).length = 2 := by decide +kernel
    have li : ("" : Str).length = 0 := by decide +kernel
    simp only [List.mem_cons, List.not_mem_nil, or_false] at p1
    rcases p1 with rfl | rfl | rfl | rfl | rfl | rfl | rfl | rfl | rfl | rfl | rfl | rfl | rfl | rfl | rfl | rfl | rfl | rfl | rfl | rfl | rfl | rfl | rfl <;> simp [Val, a, b, c, d', e, f, g, h, i, la, lb, lc, ld, le, lf, lg, lh, li]
theorem cut_take {xs : List D} {i : Int} (h0 : 0 ≤ i) (h1 : i ≤ xs.length) : cutD xs none (some i) = xs.take i.toNat := by
  have : HT.sIx xs.length xs.length (some i) = i.toNat := by
    show (if i < 0 then (i + (xs.length : Int)).toNat else min i.toNat xs.length) = _
    rw [if_neg (by omega)]; omega
  unfold cutD
  rw [this, HT.sIx_none, List.drop_zero, Nat.sub_zero]
theorem cut_drop {xs : List D} {i : Int} (h0 : 0 ≤ i) (h1 : i ≤ xs.length) : cutD xs (some i) none = xs.drop i.toNat := by
  have : HT.sIx xs.length 0 (some i) = i.toNat := by
    show (if i < 0 then (i + (xs.length : Int)).toNat else min i.toNat xs.length) = _
    rw [if_neg (by omega)]; omega
  unfold cutD
  rw [this, HT.sIx_none, List.take_of_length_le]
  simp
theorem opEq_nilT {w n : Nat} {S : Sto} {ys : List D} (h : ∀ y ∈ ys, Val w n y) (hn : n ≤ 60) : opEq (.tup ys) (.tup []) S = .ok (.bl ys.isEmpty) S ∧ opNe (.tup ys) (.tup []) S = .ok (.bl !ys.isEmpty) S := by
  obtain ⟨qs, h1, h2, h3⟩ := val_toPs h
  have e : toPS S (.tup ys) = some (.tuple qs) := by show (toPs ys).map _ = _; rw [h1]; rfl
  have e2 : toPS S (.tup []) = some (.tuple []) := rfl
  have s1 : SeqAt.shaped (.tuple qs) = true := by simp [SeqAt.shaped, PyData.canLay0, PyData.depth, h2]; omega
  have s2 : SeqAt.shaped (.tuple []) = true := rfl
  have e3 : PyData.eqv (.tuple qs) (.tuple []) = ys.isEmpty := by
    cases ys with
    | nil => cases h1; rfl
    | cons y ys =>
      cases qs with
      | nil => rw [toPs] at h1; split at h1 <;> cases h1
      | cons q qs => rfl
  have e4 : eqD S (.tup ys) (.tup []) = some ys.isEmpty := by
    have : eqD S (.tup ys) (.tup []) = (match toPS S (.tup ys), toPS S (.tup []) with
      | some a, some b => if SeqAt.shaped a && SeqAt.shaped b then some (PyData.eqv a b) else none
      | _, _ => none) := rfl
    rw [this, e, e2]
    simp only [s1, s2, Bool.and_self, if_true, e3]
  simp [opEq, opNe, e4]
theorem Dr.mono {r : R D} {P Q : D → Prop} (h : Dr k S r P) (i : ∀ d, P d → Q d) : Dr k S r Q := by
  obtain ⟨d, S1, e, u, p⟩ := h
  exact ⟨d, S1, e, u, i d p⟩
theorem bent_eq : ∀ (n : Nat) {w m : Nat} {v : D} {S : Sto}, St k S → Val w m v → m < n → 10 ≤ w → w ≤ 1000 → m ≤ 50 → Dr k S (g__law_bent_ n [.own k, v] S) (Val (w + 1) (m + 3))
  | 0, _, _, _, _, _, _, h, _, _, _ => absurd h (by omega)
  | n + 1, w, m, v, S, hs, hv, hm, hw, hw2, hm2 => by
    have oddW : ∀ {S : Sto}, St k S → Dr k S (g__law_odd [.own k] S) (Val (w + 1) (m + 3)) := fun hs => (odd_eq hs).mono fun d h => val_mono h (by omega) (by omega)
    rcases val_tuple hv with ⟨xs, rfl⟩ | q
    case inr =>
      by_cases hi : ∃ i, v = .int i
      · obtain ⟨i, rfl⟩ := hi
        obtain ⟨_, S1, e1, u1, r, rfl, r0, r1⟩ := saw_eq (m := 3) hs (by omega) (by omega)
        by_cases c : 0 < r
        · obtain ⟨d2, S2, e2, u2, p2⟩ := pick_eq (t := .lst [.int (-1), .int 1, .int 1, .int 2, .int (-4)]) (.inl rfl) (u1.st hs) (by simp) (by simp)
          have : ∃ j, d2 = .int j := by
            simp only [List.mem_cons, List.not_mem_nil, or_false] at p2
            rcases p2 with rfl | rfl | rfl | rfl | rfl <;> exact ⟨_, rfl⟩
          obtain ⟨j, rfl⟩ := this
          exact ⟨.int (i + j), S2, by simp [g__law_bent_, semFn_eq, sem__law_bent, startE, e1, c, e2], u1.trans u2, by cases m <;> trivial⟩
        · obtain ⟨d2, S2, e2, u2, p2⟩ := oddW (u1.st hs)
          exact ⟨d2, S2, by simp [g__law_bent_, semFn_eq, sem__law_bent, startE, e1, c, e2], u1.trans u2, p2⟩
      · obtain ⟨d2, S2, e2, u2, p2⟩ := oddW hs
        refine ⟨d2, S2, ?_, u2, p2⟩
        cases v with
        | int i => exact absurd ⟨i, rfl⟩ hi
        | own j => exact (val_own hv).elim
        | ty j => exact (val_ty hv).elim
        | gl j => exact (val_gl hv).elim
        | tup xs => have := q S; simp at this
        | _ => simp [g__law_bent_, semFn_eq, sem__law_bent, startE, e2]
    cases m with
    | zero => exact hv.elim
    | succ m =>
      obtain ⟨hl, hx⟩ := hv
      have e0 := (opEq_nilT (S := S) hx (by omega)).1
      cases hxs : xs with
      | nil =>
        obtain ⟨d2, S2, e2, u2, p2⟩ := oddW hs
        exact ⟨d2, S2, by subst hxs; simp at e0; simp [g__law_bent_, semFn_eq, sem__law_bent, startE, e0, e2], u2, p2⟩
      | cons x0 r0 =>
        have hne : xs.isEmpty = false := by rw [hxs]; rfl
        rw [hne] at e0
        rw [← hxs]
        have hlen : 0 < xs.length := by rw [hxs]; simp
        clear hxs hne
        obtain ⟨_, S1, e1, u1, r, rfl, r0, r1⟩ := saw_eq (m := 8) hs (by omega) (by omega)
        have hs1 := u1.st hs
        by_cases c0 : r = 0
        · obtain ⟨d2, S2, e2, u2, p2⟩ := oddW hs1
          exact ⟨d2, S2, by simp [g__law_bent_, semFn_eq, sem__law_bent, startE, e0, e1, c0, e2], u1.trans u2, p2⟩
        obtain ⟨_, S2, e2, u2, a, rfl, a0, a1⟩ := saw_eq (m := xs.length) hs1 (by omega) (by omega)
        have hs2 := u2.st hs1
        obtain ⟨_, S3, e3, u3, y, rfl, y0, y1⟩ := saw_eq (m := 11) hs2 (by omega) (by omega)
        have hs3 := u3.st hs2
        have u13 := (u1.trans u2).trans u3
        have t1 := cut_take (xs := xs) (i := a) a0 (by omega)
        have t2 := cut_take (xs := xs) (i := a + 1) (by omega) (by omega)
        have t3 := cut_drop (xs := xs) (i := a) a0 (by omega)
        have t4 := cut_drop (xs := xs) (i := a + 1) (by omega) (by omega)
        have vx : ∀ x ∈ xs, Val (w + 1) (m + 3) x := fun x hx' => val_mono (hx x hx') (by omega) (by omega)
        have vt : ∀ j, ∀ x ∈ xs.take j, Val (w + 1) (m + 3) x := fun j x hx' => vx x (List.mem_of_mem_take hx')
        have vd : ∀ j, ∀ x ∈ xs.drop j, Val (w + 1) (m + 3) x := fun j x hx' => vx x (List.mem_of_mem_drop hx')
        have lt : ∀ j, (xs.take j).length ≤ xs.length := fun j => by simp; omega
        have ld : ∀ j, (xs.drop j).length ≤ xs.length := fun j => by simp
        have eA : ∀ {S : Sto} (p q : List D), p.length + q.length ≤ 16777216 → opAdd (.tup p) (.tup q) S = .ok (.tup (p ++ q)) S := fun p q h => by simp [opAdd, h]
        by_cases c1 : y = 0
        · refine ⟨.tup (xs.take a.toNat ++ xs.drop (a + 1).toNat), S3, ?_, u13, by simp; omega, fun x hx' => ?_⟩
          · have := lt a.toNat; have := ld (a + 1).toNat
            simp only [g__law_bent_, semFn_eq]
            simp [sem__law_bent, startE, e0, e1, c0, e2, e3, c1, semSl, OEx.run, opSl, t1, t4, eA _ _ (show (xs.take a.toNat).length + (xs.drop (a + 1).toNat).length ≤ 16777216 by omega)]
          · rcases List.mem_append.mp hx' with h | h
            · exact vt _ x h
            · exact vd _ x h
        by_cases c2 : y = 1
        · refine ⟨.tup (xs.take (a + 1).toNat ++ xs.drop a.toNat), S3, ?_, u13, by simp; omega, fun x hx' => ?_⟩
          · have := lt (a + 1).toNat; have := ld a.toNat
            simp only [g__law_bent_, semFn_eq]
            simp [sem__law_bent, startE, e0, e1, c0, e2, e3, c2, semSl, OEx.run, opSl, t2, t3, eA _ _ (show (xs.take (a + 1).toNat).length + (xs.drop a.toNat).length ≤ 16777216 by omega)]
          · rcases List.mem_append.mp hx' with h | h
            · exact vt _ x h
            · exact vd _ x h
        by_cases c3 : y = 2
        · obtain ⟨d4, S4, e4, u4, p4⟩ := odd_eq hs3
          refine ⟨.tup (xs.take a.toNat ++ [d4] ++ xs.drop a.toNat), S4, ?_, u13.trans u4, by simp; omega, fun x hx' => ?_⟩
          · have := lt a.toNat; have := ld a.toNat
            simp only [g__law_bent_, semFn_eq]
            simp [sem__law_bent, startE, e0, e1, c0, e2, e3, c3, semSl, OEx.run, opSl, t1, t3, e4, eA (xs.take a.toNat) [d4] (by simp; omega), eA (xs.take a.toNat ++ [d4]) (xs.drop a.toNat) (by simp; omega)]
          · rcases List.mem_append.mp hx' with h | h
            · rcases List.mem_append.mp h with h | h
              · exact vt _ x h
              · simp at h; subst h; exact val_mono p4 (by omega) (by omega)
            · exact vd _ x h
        by_cases c4 : y = 3
        · refine ⟨.lst xs, S3, ?_, u13, by omega, vx⟩
          simp only [g__law_bent_, semFn_eq]
          simp [sem__law_bent, startE, e0, e1, c0, e2, e3, c4, bList, seqOf]
        · obtain ⟨x, hx1, hx2⟩ := atI_nat (xs := xs) a0 a1
          obtain ⟨d4, S4, e4, u4, p4⟩ := bent_eq n hs3 (hx x hx2) (by omega) hw hw2 (by omega)
          refine ⟨.tup (xs.take a.toNat ++ [d4] ++ xs.drop (a + 1).toNat), S4, ?_, u13.trans u4, by simp; omega, fun x hx' => ?_⟩
          · have := lt a.toNat; have := ld (a + 1).toNat
            simp only [g__law_bent_, semFn_eq]
            simp [sem__law_bent, startE, e0, e1, c0, e2, e3, c1, c2, c3, c4, semSl, OEx.run, opSl, t1, t4, hx1, e4, eA (xs.take a.toNat) [d4] (by simp; omega), eA (xs.take a.toNat ++ [d4]) (xs.drop (a + 1).toNat) (by simp; omega)]
          · rcases List.mem_append.mp hx' with h | h
            · rcases List.mem_append.mp h with h | h
              · exact vt _ x h
              · simp at h; subst h; exact p4
            · exact vd _ x h
end
end Sh
namespace Sh
open PySem L2 GB
/-! ### where a cell goes -/
abbrev Cell := Int × Int
def goal (m n : Int) : Deed → Cell → Cell
  | .back true, (r, c) => (m - 1 - r, c)
  | .back false, (r, c) => (r, n - 1 - c)
  | .move true false i, (r, c) => ((r + i) % m, c)
  | .move false false i, (r, c) => (r, (c + i) % n)
  | .move true true i, (r, c) => (r, (c + i * r) % n)
  | .move false true i, (r, c) => ((r + i * c) % m, c)
  | .turn true k q, (r, c) => if r % k = q then (r, n - 1 - c) else (r, c)
  | .turn false k q, (r, c) => if c % k = q then (m - 1 - r, c) else (r, c)
def InG (m n : Int) (x : Cell) : Prop := 0 ≤ x.1 ∧ x.1 < m ∧ 0 ≤ x.2 ∧ x.2 < n
theorem goal_in {m n : Int} (x : Deed) {y : Cell} (h : InG m n y) : InG m n (goal m n x y) := by
  obtain ⟨r, c⟩ := y
  obtain ⟨h1, h2, h3, h4⟩ := h
  have h1 : 0 ≤ r := h1
  have h2 : r < m := h2
  have h3 : 0 ≤ c := h3
  have h4 : c < n := h4
  have em : ∀ a : Int, 0 ≤ a % m ∧ a % m < m := fun a => ⟨Int.emod_nonneg _ (by omega), Int.emod_lt_of_pos _ (by omega)⟩
  have en : ∀ a : Int, 0 ≤ a % n ∧ a % n < n := fun a => ⟨Int.emod_nonneg _ (by omega), Int.emod_lt_of_pos _ (by omega)⟩
  cases x with
  | back s => cases s <;> simp only [goal, InG] <;> omega
  | move s b i =>
    cases s <;> cases b <;> simp only [goal, InG]
    · exact ⟨h1, h2, (en _).1, (en _).2⟩
    · exact ⟨(em _).1, (em _).2, h3, h4⟩
    · exact ⟨(em _).1, (em _).2, h3, h4⟩
    · exact ⟨h1, h2, (en _).1, (en _).2⟩
  | turn s k q => cases s <;> simp only [goal, InG] <;> split <;> simp only <;> omega
theorem goal_back {m n : Int} (x : Deed) {y : Cell} (h : InG m n y) : goal m n x.un (goal m n x y) = y := by
  obtain ⟨r, c⟩ := y
  obtain ⟨h1, h2, h3, h4⟩ := h
  have h1 : 0 ≤ r := h1
  have h2 : r < m := h2
  have h3 : 0 ≤ c := h3
  have h4 : c < n := h4
  have em : ∀ a b : Int, a + b = r → (a % m + b) % m = r := fun a b e => by
    rw [Int.emod_add_emod, e]; exact Int.emod_eq_of_lt h1 h2
  have en : ∀ a b : Int, a + b = c → (a % n + b) % n = c := fun a b e => by
    rw [Int.emod_add_emod, e]; exact Int.emod_eq_of_lt h3 h4
  cases x with
  | back s => cases s <;> simp [Deed.un, goal] <;> omega
  | move s b i =>
    cases s <;> cases b <;> simp only [Deed.un, goal, Prod.mk.injEq, true_and, and_true]
    · exact en _ _ (by omega)
    · exact em _ _ (by rw [Int.neg_mul]; omega)
    · exact em _ _ (by omega)
    · exact en _ _ (by rw [Int.neg_mul]; omega)
  | turn s k q =>
    cases s
    · simp only [Deed.un, goal]
      split
      · rename_i e
        simp only [goal, e, if_true, Prod.mk.injEq, and_true]; omega
      · rename_i e
        simp only [goal, e, if_false]
    · simp only [Deed.un, goal]
      split
      · rename_i e
        simp only [goal, e, if_true, Prod.mk.injEq, true_and]; omega
      · rename_i e
        simp only [goal, e, if_false]
theorem un_un (x : Deed) : x.un.un = x := by cases x <;> simp [Deed.un]
theorem goal_inj {m n : Int} (x : Deed) {y z : Cell} (h : InG m n y) (g : InG m n z) (e : goal m n x y = goal m n x z) : y = z := by
  rw [← goal_back x h, ← goal_back x g, e]
theorem law_goal_eq {m n r c : Int} {S : Sto} (x : Deed) (hx : x.Ok) (hm : 0 < m) (hn : 0 < n) (hi : ∀ i : Int, -2 ≤ i → i ≤ 2 → (-(2 ^ 64) < i ∧ i < 2 ^ 64)) : g__law_goal [.int m, .int n, x.d, .int r, .int c] S = .ok (.tup [.int (goal m n x (r, c)).1, .int (goal m n x (r, c)).2]) S := by
  obtain ⟨r1, r2, r3, r4, n1, n2, n3, n4, n5, n6, n7, n8, n9, n10, n11, n12, n13, n14⟩ := words
  have c2 : ∀ a b : D, cutD [a, b] none (some 2) = [a, b] := fun a b => rfl
  have c3 : ∀ a b c : D, cutD [a, b, c] none (some 2) = [a, b] := fun a b c => rfl
  have c4 : ∀ a b c d : D, cutD [a, b, c, d] none (some 2) = [a, b] := fun a b c d => rfl
  cases x with
  | back s =>
    cases s <;> simp [g__law_goal, semFn_eq, sem__law_goal, startE, Deed.d, semSl, OEx.run, opSl, c2, sd, n10, n1, n2, n13, n14, goal, atI, ixN]
  | move s b i =>
    have hb := hi i hx.1 hx.2.1
    have hb1 : -18446744073709551616 < i ∧ i < 18446744073709551616 := by omega
    cases s <;> cases b <;> simp [g__law_goal, semFn_eq, sem__law_goal, startE, Deed.d, semSl, OEx.run, opSl, c3, sd, mv, n6, n7, n8, n9, n11, n12, n13, n14, goal, opMod, hm, hn, atI, ixN, hb1]
  | turn s k q =>
    obtain ⟨k1, k2, k3, k4⟩ := hx
    have hk : 0 < k := by omega
    cases s
    · by_cases e : c % k = q <;> simp [g__law_goal, semFn_eq, sem__law_goal, startE, Deed.d, semSl, OEx.run, opSl, c4, sd, n3, n4, n5, n13, n14, goal, opMod, hk, e, atI, ixN]
    · by_cases e : r % k = q <;> simp [g__law_goal, semFn_eq, sem__law_goal, startE, Deed.d, semSl, OEx.run, opSl, c4, sd, n3, n4, n5, n13, n14, goal, opMod, hk, e, atI, ixN]
/-! ### boards as dicts -/
def keyC (x : Cell) : List Key := [Sum.inl x.1, Sum.inl x.2]
def kv (L : List (Cell × D)) : List (List Key × D) := L.map fun y => (keyC y.1, y.2)
theorem keyC_inj {x y : Cell} (h : keyC x = keyC y) : x = y := by
  obtain ⟨a, b⟩ := x
  obtain ⟨c, d⟩ := y
  simp [keyC] at h
  simp [h]
theorem putD_new {L : List (Cell × D)} {x : Cell} {v : D} (h : x ∉ L.map (·.1)) : putD (kv L) (keyC x) v = kv (L ++ [(x, v)]) := by
  unfold putD
  have : ((kv L).any fun kv => decide (kv.1 = keyC x)) = false := by
    rw [List.any_eq_false]
    intro y hy
    obtain ⟨z, hz, rfl⟩ := List.mem_map.mp hy
    simp only [decide_eq_true_eq]
    intro e
    exact h (List.mem_map.mpr ⟨z, hz, keyC_inj e⟩)
  rw [this]
  simp [kv]
def look (L : List (Cell × D)) (x : Cell) : Option D := (L.find? fun y => decide (y.1 = x)).map (·.2)
theorem valD_kv (L : List (Cell × D)) (x : Cell) : valD (kv L) (keyC x) = look L x := by
  unfold valD look kv
  rw [List.find?_map, Option.map_map]
  have : ((fun kv : List Key × D => decide (kv.1 = keyC x)) ∘ fun y : Cell × D => (keyC y.1, y.2)) = fun y => decide (y.1 = x) := by
    funext y
    simp only [Function.comp]
    by_cases e : y.1 = x
    · simp [e]
    · have : ¬ keyC y.1 = keyC x := fun z => e (keyC_inj z)
      simp [e, this]
  rw [this]
  rfl
theorem kv_length (L : List (Cell × D)) : (kv L).length = L.length := by simp [kv]
theorem dGet_kv {S : Sto} {t : Nat} {L : List (Cell × D)} (h : S[t]? = some (.dT (kv L)) ∨ S[t]? = some (.frz (.dT (kv L)))) (r c : Int) : dGet S (.own t) (.tup [.int r, .int c]) = some (look L (r, c)) := by
  have : keysD [.int r, .int c] = some (keyC (r, c)) := rfl
  rcases h with h | h <;> simp [dGet, h, this, valD_kv]
theorem opSet_kv {S : Sto} {t : Nat} {L : List (Cell × D)} (h : S[t]? = some (.dT (kv L))) {r c : Int} (hn : (r, c) ∉ L.map (·.1)) (hl : L.length < 16777216) (v : D) : opSet (.own t) (.tup [.int r, .int c]) v S = some (S.set t (.dT (kv (L ++ [((r, c), v)])))) := by
  have : keysD [.int r, .int c] = some (keyC (r, c)) := rfl
  simp [opSet, h, this, kv_length, hl, putD_new hn]
/-- the strips, told cell by cell -/
def rowL (r : Int) (w : D) (n : Nat) : List (Cell × D) := (List.range n).map fun c => ((r, (c : Nat)), w)
def stripL : Nat → List D → Nat → List (Cell × D)
  | _, [], _ => []
  | r, w :: ws, n => rowL r w n ++ stripL (r + 1) ws n
theorem set_last (S : Sto) (a b : O) : (S ++ [a]).set S.length b = S ++ [b] := by
  rw [List.set_append_right _ _ (Nat.le_refl _)]
  simp
theorem get_last (S : Sto) (a : O) : (S ++ [a])[S.length]? = some a := by simp
theorem sLoop_step {g : SemG} {fb : SemS} {d : D} {ds : List D} {ρ ρ1 ρ2 : GB.Env} {S S2 : Sto} (h : g d ρ S = some ρ1) (h2 : fb ρ1 S = .nx ρ2 S2) : sLoop g fb (d :: ds) ρ S = sLoop g fb ds ρ2 S2 := by
  conv => lhs; unfold sLoop
  rw [h]
  simp only [h2]
theorem sFor_ok {fi : SemA} {g : SemG} {fb : SemS} {ds : List D} {ρ : GB.Env} {S S1 : Sto} (h : fi ρ S = .ok ds S1) : sFor fi g fb ρ S = sLoop g fb ds ρ S1 := by
  unfold sFor
  rw [h]
theorem range_succ_drop (i n : Nat) (h : i < n) : (List.range n).drop i = i :: (List.range n).drop (i + 1) := by
  rw [List.drop_eq_getElem_cons (by simpa using h)]
  simp
theorem inner_loop {S : Sto} {ws : List D} {w : D} {n r : Nat} (hw : ws[r]? = some w) : ∀ (j i : Nat) (L : List (Cell × D)) (x : Option D), i + j = n → (∀ y ∈ L, (y.1.1 < r ∨ (y.1.1 = r ∧ y.1.2 < i))) → L.length + j < 16777216 →
    ∃ x', sLoop (gNm 4) (sSub (sem2 opIx (semVar 0) (semVar 3)) (semVar 2) (semTup (semCons (semVar 3) (semCons (semVar 4) semNil)))) (((List.range n).drop i).map fun c => .int (c : Nat)) [some (.tup ws), some (.int n), some (.own S.length), some (.int (r : Nat)), x] (S ++ [.dT (kv L)]) =
      .nx [some (.tup ws), some (.int n), some (.own S.length), some (.int (r : Nat)), x'] (S ++ [.dT (kv (L ++ ((List.range n).drop i).map fun c => (((r : Int), ((c : Nat) : Int)), w)))])
  | 0, i, L, x, h, _, _ => by
    have : (List.range n).drop i = [] := List.drop_eq_nil_of_le (by simp; omega)
    rw [this]
    exact ⟨x, by simp [sLoop]⟩
  | j + 1, i, L, x, h, hL, hlen => by
    rw [range_succ_drop i n (by omega)]
    obtain ⟨x', ih⟩ := inner_loop (S := S) (n := n) hw j (i + 1) (L ++ [(((r : Int), (i : Int)), w)]) (some (.int (i : Nat))) (by omega) (fun y hy => by
      rcases List.mem_append.mp hy with hy | hy
      · rcases hL y hy with h | h
        · exact .inl h
        · exact .inr ⟨h.1, by omega⟩
      · simp at hy; subst hy; right; constructor
        · rfl
        · show (i : Int) < ((i + 1 : Nat) : Int); omega) (by simp; omega)
    refine ⟨x', ?_⟩
    have hnew : ((r : Int), (i : Int)) ∉ L.map (·.1) := by
      intro hm
      obtain ⟨y, hy, e⟩ := List.mem_map.mp hm
      rcases hL y hy with h | h
      · rw [e] at h; simp at h
      · rw [e] at h; simp at h
    have hs := opSet_kv (S := S ++ [.dT (kv L)]) (t := S.length) (get_last _ _) hnew (by omega) w
    have hi : opIx (.tup ws) (.int (r : Nat)) (S ++ [.dT (kv L)]) = .ok w (S ++ [.dT (kv L)]) := by
      obtain ⟨hlt, hw'⟩ := List.getElem?_eq_some_iff.mp hw
      simp [atI, ixN, hlt, hw']
    rw [List.map_cons, List.map_cons]
    rw [List.append_assoc, List.singleton_append] at ih
    refine (sLoop_step rfl ?_).trans ih
    simp only [List.set_cons_succ, List.set_cons_zero]
    simp [hi, hs, set_last]
theorem row_whole (r : Nat) (w : D) (n : Nat) : ((List.range n).drop 0).map (fun c => (((r : Int), ((c : Nat) : Int)), w)) = rowL r w n := rfl
theorem stripL_last : ∀ (ws : List D) (r : Nat) (w : D) (n : Nat), stripL r (ws ++ [w]) n = stripL r ws n ++ rowL ((r + ws.length : Nat) : Int) w n
  | [], r, w, n => by simp [stripL]
  | v :: ws, r, w, n => by
    rw [List.cons_append, stripL, stripL, stripL_last ws (r + 1) w n, List.append_assoc]
    have : r + 1 + ws.length = r + (v :: ws).length := by simp; omega
    rw [this]
theorem rowL_length (r : Int) (w : D) (n : Nat) : (rowL r w n).length = n := by simp [rowL]
theorem stripL_length : ∀ (ws : List D) (r n : Nat), (stripL r ws n).length = ws.length * n
  | [], _, _ => by simp [stripL]
  | w :: ws, r, n => by
    rw [stripL, List.length_append, rowL_length, stripL_length ws, List.length_cons, Nat.add_mul]; omega
theorem stripL_rows {ws : List D} : ∀ {r n : Nat} {y : Cell × D}, y ∈ stripL r ws n → (r : Int) ≤ y.1.1 ∧ y.1.1 < ((r + ws.length : Nat) : Int) ∧ 0 ≤ y.1.2 ∧ y.1.2 < n := by
  induction ws with
  | nil => intro r n y h; cases h
  | cons w ws ih =>
    intro r n y h
    rw [stripL] at h
    rcases List.mem_append.mp h with h | h
    · obtain ⟨c, hc, rfl⟩ := List.mem_map.mp h
      have := List.mem_range.mp hc
      refine ⟨by show (r : Int) ≤ r; omega, by show (r : Int) < _; simp; omega, by show (0 : Int) ≤ (c : Int); omega, by show (c : Int) < n; omega⟩
    · have := ih h
      simp only [List.length_cons]
      refine ⟨by omega, by omega, this.2.2.1, this.2.2.2⟩
theorem rng1 {n i : Nat} {ρ : GB.Env} {S : Sto} (hn : n < 1000000) (h : ρ[i]? = some (some (.int n))) : semArg bRange1 (semCons (semVar i) semNil) ρ S = .ok ((List.range n).map fun c => .int (c : Nat)) S := by
  have b : -(2 ^ 62 : Int) ≤ (n : Int) ∧ (n : Int) < 2 ^ 62 := by omega
  simp only [semArg_eq, semCons_eq, semVar_eq, h, bind_ok, semNil_eq, bRange1_ok b, Int.toNat_natCast]
theorem outer_loop {S : Sto} {ws : List D} {n : Nat} (hn : ws.length * n < 16777216) (hn2 : n < 1000000) : ∀ (j i : Nat) (x y : Option D), i + j = ws.length →
    ∃ x' y', sLoop (gNm 3) (sFor (semArg bRange1 (semCons (semVar 1) semNil)) (gNm 4) (sSub (sem2 opIx (semVar 0) (semVar 3)) (semVar 2) (semTup (semCons (semVar 3) (semCons (semVar 4) semNil))))) (((List.range ws.length).drop i).map fun c => .int (c : Nat)) [some (.tup ws), some (.int n), some (.own S.length), x, y] (S ++ [.dT (kv (stripL 0 (ws.take i) n))]) =
      .nx [some (.tup ws), some (.int n), some (.own S.length), x', y'] (S ++ [.dT (kv (stripL 0 ws n))])
  | 0, i, x, y, h => by
    have e1 : (List.range ws.length).drop i = [] := List.drop_eq_nil_of_le (by simp; omega)
    have e2 : ws.take i = ws := List.take_of_length_le (by omega)
    rw [e1, e2]
    exact ⟨x, y, by simp [sLoop]⟩
  | j + 1, i, x, y, h => by
    have hi : i < ws.length := by omega
    have hw : ws[i]? = some ws[i] := by simp [hi]
    rw [range_succ_drop i _ hi]
    have e2 : ws.take (i + 1) = ws.take i ++ [ws[i]] := by rw [List.take_succ, hw]; rfl
    have lt : (ws.take i).length = i := by simp; omega
    obtain ⟨z, hz⟩ := inner_loop (S := S) (ws := ws) (n := n) hw n 0 (stripL 0 (ws.take i) n) y (by omega) (fun q hq => by
      have := stripL_rows hq
      rw [lt] at this
      left; omega) (by
      rw [stripL_length, lt]
      have : i * n + n ≤ ws.length * n := by rw [← Nat.succ_mul]; exact Nat.mul_le_mul_right _ hi
      omega)
    rw [row_whole] at hz
    have e3 : stripL 0 (ws.take i) n ++ rowL (i : Nat) ws[i] n = stripL 0 (ws.take (i + 1)) n := by
      rw [e2, stripL_last, lt]; simp
    rw [e3] at hz
    obtain ⟨x', y', ih⟩ := outer_loop hn hn2 j (i + 1) (some (.int (i : Nat))) z (by omega)
    refine ⟨x', y', ?_⟩
    rw [List.map_cons]
    refine (sLoop_step rfl ?_).trans ih
    simp only [List.set_cons_succ, List.set_cons_zero]
    refine (sFor_ok ?_).trans hz
    rw [List.drop_zero]
    exact rng1 hn2 rfl
theorem law_strips_eq {S : Sto} {ws : List D} {n : Nat} (hn : ws.length * n < 16777216) (hn2 : n < 1000000) (hw : ws.length < 1000000) : g__law_strips [.tup ws, .int n] S = .ok (.own S.length) (S ++ [.dT (kv (stripL 0 ws n))]) := by
  obtain ⟨x', y', h⟩ := outer_loop (S := S) (ws := ws) hn hn2 ws.length 0 none none (by omega)
  rw [List.take_zero, stripL, List.drop_zero] at h
  have b : -(2 ^ 62 : Int) ≤ (ws.length : Int) ∧ (ws.length : Int) < 2 ^ 62 := by omega
  have c1 := sFor_ok (fi := semArg bRange1 (semCons (semCall bLen (semCons (semVar 0) semNil)) semNil)) (g := gNm 3) (fb := sFor (semArg bRange1 (semCons (semVar 1) semNil)) (gNm 4) (sSub (sem2 opIx (semVar 0) (semVar 3)) (semVar 2) (semTup (semCons (semVar 3) (semCons (semVar 4) semNil)))))
    (ρ := [some (.tup ws), some (.int n), some (.own S.length), none, none]) (S := S ++ [.dT []]) (S1 := S ++ [.dT []]) (ds := (List.range ws.length).map fun c => .int (c : Nat)) (by
      simp only [semArg_eq, semCons_eq, semCall_eq, semVar_eq, List.getElem?_cons_zero, bind_ok, semNil_eq, bLen_tup, bRange1_ok b, Int.toNat_natCast])
  have c2 := c1.trans h
  simp only [g__law_strips, semFn_eq, sem__law_strips, startE, sSeq_eq, sAsg_eq, semNewT, toS_ok, gNm_eq, optS_some, seqS_nx, List.map_cons, List.map_nil, List.length_cons, List.length_nil, List.replicate, List.cons_append, List.nil_append, List.set_cons_succ, List.set_cons_zero]
  rw [c2]
  simp
end Sh
namespace Sh
open PySem L2 GB
/-! ### one deed done to a board as a dict -/
def moved (f : Cell → Cell) (L : List (Cell × D)) : List (Cell × D) := L.map fun y => (f y.1, y.2)
theorem nodup_map {α β : Type} {f : α → β} : ∀ {l : List α}, (∀ a ∈ l, ∀ b ∈ l, f a = f b → a = b) → l.Nodup → (l.map f).Nodup
  | [], _, _ => List.nodup_nil
  | a :: l, h, nd => by
    rw [List.nodup_cons] at nd
    rw [List.map_cons, List.nodup_cons]
    refine ⟨fun hm => ?_, nodup_map (fun x hx y hy => h x (List.mem_cons_of_mem _ hx) y (List.mem_cons_of_mem _ hy)) nd.2⟩
    obtain ⟨b, hb, e⟩ := List.mem_map.mp hm
    have := h b (List.mem_cons_of_mem _ hb) a (List.mem_cons_self ..) e
    exact nd.1 (this ▸ hb)
/-- a board: each cell of the grid once -/
structure Brd (m n : Int) (L : List (Cell × D)) : Prop where
  nd : (L.map (·.1)).Nodup
  in_ : ∀ y ∈ L, InG m n y.1
theorem Brd.moved {m n : Int} {L : List (Cell × D)} (h : Brd m n L) (x : Deed) : Brd m n (moved (goal m n x) L) := by
  refine ⟨?_, fun y hy => ?_⟩
  · have : (Sh.moved (goal m n x) L).map (·.1) = (L.map (·.1)).map (goal m n x) := by simp [Sh.moved]
    rw [this]
    refine nodup_map ?_ h.nd
    intro a ha b hb e
    obtain ⟨y, hy, rfl⟩ := List.mem_map.mp ha
    obtain ⟨z, hz, rfl⟩ := List.mem_map.mp hb
    exact goal_inj x (h.in_ y hy) (h.in_ z hz) e
  · obtain ⟨z, hz, rfl⟩ := List.mem_map.mp hy
    exact goal_in x (h.in_ z hz)
theorem look_mem {L : List (Cell × D)} : (L.map (·.1)).Nodup → ∀ {y : Cell × D}, y ∈ L → look L y.1 = some y.2 := by
  induction L with
  | nil => intro _ y hy; cases hy
  | cons a L ih =>
    intro nd y hy
    rw [List.map_cons, List.nodup_cons] at nd
    rcases List.mem_cons.mp hy with rfl | hy
    · simp [look]
    · have : ¬ a.1 = y.1 := fun e => nd.1 (e ▸ List.mem_map.mpr ⟨y, hy, rfl⟩)
      have := ih nd.2 hy
      unfold look at this ⊢
      rw [List.find?_cons]
      simp only [‹¬ a.1 = y.1›, decide_false]
      exact this
theorem done_loop {m n : Int} {t : Nat} {x : Deed} (hx : x.Ok) (hm : 0 < m) (hn : 0 < n) {S : Sto} {K : List (Cell × D)} (ht : S[t]? = some (.frz (.dT (kv K)))) (hK : Brd m n K) : ∀ (L : List (Cell × D)) (M : List (Cell × D)) (a b : Option D), (∀ y ∈ L, y ∈ K) → Brd m n (M ++ moved (goal m n x) L) → M.length + L.length < 16777216 →
    ∃ a' b', sLoop (gTp [5, 6]) (sSub (sem2 opDGet (semVar 2) (semTup (semCons (semVar 5) (semCons (semVar 6) semNil)))) (semVar 4) (semCall (fun ds S => if ds.length = 5 then g__law_goal ds S else .no) (semCons (semVar 0) (semCons (semVar 1) (semCons (semVar 3) (semCons (semVar 5) (semCons (semVar 6) semNil)))))))
      (L.map fun y => .tup [.int y.1.1, .int y.1.2]) [some (.int m), some (.int n), some (.own t), some x.d, some (.own S.length), a, b] (S ++ [.dT (kv M)]) =
      .nx [some (.int m), some (.int n), some (.own t), some x.d, some (.own S.length), a', b'] (S ++ [.dT (kv (M ++ moved (goal m n x) L))])
  | [], M, a, b, _, _, _ => ⟨a, b, by simp [sLoop, moved]⟩
  | y :: L, M, a, b, hL, hM, hl => by
    obtain ⟨⟨r, c⟩, v⟩ := y
    have e1 : moved (goal m n x) (((r, c), v) :: L) = (goal m n x (r, c), v) :: moved (goal m n x) L := rfl
    rw [e1] at hM ⊢
    have hM2 : Brd m n ((M ++ [(goal m n x (r, c), v)]) ++ moved (goal m n x) L) := by rw [List.append_assoc]; exact hM
    obtain ⟨a', b', ih⟩ := done_loop hx hm hn ht hK L (M ++ [(goal m n x (r, c), v)]) (some (.int r)) (some (.int c)) (fun y hy => hL y (List.mem_cons_of_mem _ hy)) hM2 (by simp at hl ⊢; omega)
    refine ⟨a', b', ?_⟩
    rw [List.append_assoc, List.singleton_append] at ih
    have ht2 : (S ++ [.dT (kv M)])[t]? = some (.frz (.dT (kv K))) := by
      rw [List.getElem?_append_left (List.getElem?_eq_some_iff.mp ht).1]; exact ht
    have hg := dGet_kv (S := S ++ [.dT (kv M)]) (.inr ht2) r c
    have hlk : look K (r, c) = some v := look_mem hK.nd (hL _ (List.mem_cons_self ..))
    rw [hlk] at hg
    have hgo := law_goal_eq (S := S ++ [.dT (kv M)]) (r := r) (c := c) x hx hm hn (fun i h1 h2 => by omega)
    have hnew : goal m n x (r, c) ∉ M.map (·.1) := by
      intro hmem
      have nd := hM.nd
      rw [List.map_append, List.map_cons] at nd
      exact (List.nodup_append.mp nd).2.2 _ hmem _ (List.mem_cons_self ..) rfl
    have hs := opSet_kv (S := S ++ [.dT (kv M)]) (t := S.length) (get_last _ _) (r := (goal m n x (r, c)).1) (c := (goal m n x (r, c)).2) hnew (by simp at hl; omega) v
    refine (sLoop_step (ρ1 := [some (.int m), some (.int n), some (.own t), some x.d, some (.own S.length), some (.int r), some (.int c)]) rfl ?_).trans ih
    simp [opDGet, hg, hgo, hs, set_last]
theorem law_done_eq {m n : Int} {t : Nat} {x : Deed} {S : Sto} {L : List (Cell × D)} (hx : x.Ok) (hm : 0 < m) (hn : 0 < n) (ht : S[t]? = some (.dT (kv L))) (hL : Brd m n L) (hl : L.length < 16777216) : g__law_done [.int m, .int n, .own t, x.d] S = .ok (.own S.length) (S ++ [.dT (kv (moved (goal m n x) L))]) := by
  have hlt := (List.getElem?_eq_some_iff.mp ht).1
  have ht1 : (S ++ [.dT []])[t]? = some (.dT (kv L)) := by rw [List.getElem?_append_left hlt]; exact ht
  have e1 : (S ++ [O.dT []]).set t (.frz (.dT (kv L))) = S.set t (.frz (.dT (kv L))) ++ [.dT []] := by rw [List.set_append_left _ _ hlt]
  have ht2 : (S.set t (.frz (.dT (kv L))))[t]? = some (.frz (.dT (kv L))) := by rw [List.getElem?_set_self hlt]
  obtain ⟨a', b', h⟩ := done_loop (t := t) (S := S.set t (.frz (.dT (kv L)))) hx hm hn ht2 hL L [] none none (fun y hy => hy) (by rw [List.nil_append]; exact hL.moved x) (by simpa using hl)
  rw [List.nil_append, List.length_set] at h
  have ek : (kv L).map (fun kv => D.tup (kv.1.map kD)) = L.map fun y => .tup [.int y.1.1, .int y.1.2] := by
    simp [kv, keyC, kD]
  have hit : semItems (semVar 2) [some (.int m), some (.int n), some (.own t), some x.d, some (.own S.length), none, none] (S.set t (.frz (.dT (kv L))) ++ [.dT []]) = .ok (L.map fun y => .tup [.int y.1.1, .int y.1.2]) (S.set t (.frz (.dT (kv L))) ++ [.dT []]) := by
    have : (S.set t (.frz (.dT (kv L))) ++ [O.dT []])[t]? = some (.frz (.dT (kv L))) := by rw [List.getElem?_append_left (by simpa using hlt)]; exact ht2
    simp only [semItems_eq, semVar_eq, List.getElem?_cons_succ, List.getElem?_cons_zero, bind_ok, bItems, this, ek]
  have hf := (sFor_ok (g := gTp [5, 6]) (fb := sSub (sem2 opDGet (semVar 2) (semTup (semCons (semVar 5) (semCons (semVar 6) semNil)))) (semVar 4) (semCall (fun ds S => if ds.length = 5 then g__law_goal ds S else .no) (semCons (semVar 0) (semCons (semVar 1) (semCons (semVar 3) (semCons (semVar 5) (semCons (semVar 6) semNil))))))) hit).trans h
  have hun : (S.set t (.frz (.dT (kv L))) ++ [O.dT (kv (moved (goal m n x) L))])[t]? = some (.frz (.dT (kv L))) := by rw [List.getElem?_append_left (by simpa using hlt)]; exact ht2
  have hback : (S.set t (.frz (.dT (kv L))) ++ [O.dT (kv (moved (goal m n x) L))]).set t (.dT (kv L)) = S ++ [.dT (kv (moved (goal m n x) L))] := by
    rw [List.set_append_left _ _ (by simpa using hlt), List.set_set]
    congr 1
    apply List.ext_getElem?
    intro j
    by_cases e : t = j
    · subst e; rw [List.getElem?_set_self hlt, ht]
    · rw [List.getElem?_set_ne e]
  simp only [g__law_done, semFn_eq, sem__law_done, startE, sSeq_eq, sAsg_eq, semNewT, toS_ok, gNm_eq, optS_some, seqS_nx, List.map_cons, List.map_nil, List.length_cons, List.length_nil, List.replicate, List.cons_append, List.nil_append, List.set_cons_succ, List.set_cons_zero]
  have hlock : sLock 2 (sFor (semItems (semVar 2)) (gTp [5, 6]) (sSub (sem2 opDGet (semVar 2) (semTup (semCons (semVar 5) (semCons (semVar 6) semNil)))) (semVar 4) (semCall (fun ds S => if ds.length = 5 then g__law_goal ds S else .no) (semCons (semVar 0) (semCons (semVar 1) (semCons (semVar 3) (semCons (semVar 5) (semCons (semVar 6) semNil)))))))) [some (.int m), some (.int n), some (.own t), some x.d, some (.own S.length), none, none] (S ++ [.dT []]) =
      .nx [some (.int m), some (.int n), some (.own t), some x.d, some (.own S.length), a', b'] (S ++ [.dT (kv (moved (goal m n x) L))]) := by
    unfold sLock
    simp only [List.getElem?_cons_succ, List.getElem?_cons_zero, ht1, e1, hf, unlS, hun, hback]
  rw [hlock]
  simp
theorem stripL_brd (ws : List D) (n : Nat) : Brd ws.length n (stripL 0 ws n) := by
  have nd : ∀ (ws : List D) (r : Nat), ((stripL r ws n).map (·.1)).Nodup := by
    intro ws
    induction ws with
    | nil => intro r; exact List.nodup_nil
    | cons w ws ih =>
      intro r
      rw [stripL, List.map_append, List.nodup_append]
      refine ⟨?_, ih (r + 1), fun a ha b hb e => ?_⟩
      · have : (rowL r w n).map (·.1) = (List.range n).map fun c => (((r : Int), ((c : Nat) : Int)) : Cell) := by simp [rowL]
        rw [this]
        refine nodup_map (fun a _ b _ e => ?_) List.nodup_range
        simp at e; omega
      · obtain ⟨y, hy, rfl⟩ := List.mem_map.mp ha
        obtain ⟨z, hz, rfl⟩ := List.mem_map.mp hb
        obtain ⟨c, _, rfl⟩ := List.mem_map.mp hy
        have := (stripL_rows hz).1
        rw [← e] at this
        have : ((r + 1 : Nat) : Int) ≤ (r : Int) := this
        omega
  refine ⟨nd ws 0, fun y hy => ?_⟩
  have := stripL_rows hy
  exact ⟨by omega, by omega, this.2.2.1, this.2.2.2⟩
theorem stripL_mem {ws : List D} : ∀ {r : Nat} {n i c : Nat} {w : D}, ws[i]? = some w → c < n → ((((r + i : Nat) : Int), (c : Int)), w) ∈ stripL r ws n := by
  induction ws with
  | nil => intro r n i c w h; simp at h
  | cons v ws ih =>
    intro r n i c w h hc
    rw [stripL]
    cases i with
    | zero =>
      simp at h; subst h
      exact List.mem_append_left _ (List.mem_map.mpr ⟨c, List.mem_range.mpr hc, rfl⟩)
    | succ i =>
      have := ih (r := r + 1) (n := n) (i := i) (c := c) (w := w) (by simpa using h) hc
      have e : r + 1 + i = r + (i + 1) := by omega
      rw [e] at this
      exact List.mem_append_right _ this
/-! ### a board's rows -/
/-- the text at a cell -/
def txt (L : List (Cell × D)) (x : Cell) : Str := match look L x with
  | some (.str z) => z
  | _ => ""
def rowT (L : List (Cell × D)) (n : Nat) (r : Int) : Str := Txt.join "" ((List.range n).map fun c => txt L (r, (c : Nat)))
def rowsD (L : List (Cell × D)) (m n : Nat) : D := .tup ((List.range m).map fun r => .str (rowT L n (r : Nat)))
/-- all of the grid is told, by one sign each -/
def Full (L : List (Cell × D)) (m n : Nat) : Prop := ∀ r c : Nat, r < m → c < n → ∃ z, look L ((r : Int), (c : Int)) = some (.str z) ∧ z.length = 1 ∧ PyData.strOk z = true
theorem map_dstr (f : Nat → Str) (l : List Nat) : l.map (fun c => D.str (f c)) = (l.map f).map D.str := by simp
theorem strsOf_strs : ∀ l : List Str, strsOf (l.map D.str) = some l
  | [] => rfl
  | x :: l => by simp [strsOf, strsOf_strs l]
theorem sum_ones : ∀ {l : List Str}, (∀ z ∈ l, z.length = 1) → (l.map (·.length)).sum = l.length
  | [], _ => rfl
  | x :: l, h => by
    rw [List.map_cons, List.sum_cons, h x (List.mem_cons_self ..), sum_ones fun z hz => h z (List.mem_cons_of_mem _ hz), List.length_cons]; omega
theorem law_rows_eq {S : Sto} {t m n : Nat} {L : List (Cell × D)} (ht : S[t]? = some (.dT (kv L))) (hF : Full L m n) (hm : m < 1000000) (hn : n < 1000000) : g__law_rows [.int m, .int n, .own t] S = .ok (rowsD L m n) S := by
  have key1 : ∀ r : Nat, r < m → ∀ (a : Option D), cLoop (gNm 4) (semC (.bl true)) (sem2 opDGet (semVar 2) (semTup (semCons (semVar 3) (semCons (semVar 4) semNil)))) [some (.int m), some (.int n), some (.own t), some (.int (r : Nat)), none] ((List.range n).map fun c => .int (c : Nat)) S = .ok ((List.range n).map fun c => .str (txt L (r, (c : Nat)))) S := by
    intro r hr a
    have := cLoop_map (i := 4) (ρ := [some (.int m), some (.int n), some (.own t), some (.int (r : Nat)), none]) (S := S) (fe := sem2 opDGet (semVar 2) (semTup (semCons (semVar 3) (semCons (semVar 4) semNil)))) (f := fun d => match d with | .int c => .str (txt L (r, c)) | _ => .non) (ds := (List.range n).map fun c => .int (c : Nat)) (fun d hd => by
      obtain ⟨c, hc, rfl⟩ := List.mem_map.mp hd
      have hc := List.mem_range.mp hc
      obtain ⟨z, hz, _⟩ := hF r c hr hc
      have hg := dGet_kv (S := S) (.inl ht) (r : Nat) (c : Nat)
      rw [hz] at hg
      simp [opDGet, hg, txt, hz])
    rw [this, List.map_map]
    rfl
  have hl2 : ((List.range n).map fun c => D.int (c : Nat)).length ≤ 16777216 := by simp; omega
  have hjoin : ∀ r : Nat, r < m → semJoin (semC (.str "")) (semLc finD (semArg bRange1 (semCons (semVar 1) semNil)) [4] (gNm 4) (semC (.bl true)) (sem2 opDGet (semVar 2) (semTup (semCons (semVar 3) (semCons (semVar 4) semNil))))) [some (.int m), some (.int n), some (.own t), some (.int (r : Nat)), none] S = .ok (.str (rowT L n (r : Nat))) S := by
    intro r hr
    have e0 : wipeE [some (.int m), some (.int n), some (.own t), some (.int (r : Nat)), none] [4] = [some (.int m), some (.int n), some (.own t), some (.int (r : Nat)), none] := rfl
    have e1 : semLc finD (semArg bRange1 (semCons (semVar 1) semNil)) [4] (gNm 4) (semC (.bl true)) (sem2 opDGet (semVar 2) (semTup (semCons (semVar 3) (semCons (semVar 4) semNil)))) [some (.int m), some (.int n), some (.own t), some (.int (r : Nat)), none] S = .ok (.lst (((List.range n).map fun c => txt L (r, (c : Nat))).map .str)) S := by
      rw [semLc_eq, rng1 hn rfl]
      simp only [bind_ok, kl, hl2, if_true, e0, key1 r hr none, finD_eq, map_dstr]
    have e2 : strsIn (.lst (((List.range n).map fun c => txt L (r, (c : Nat))).map .str)) S = some ((List.range n).map fun c => txt L (r, (c : Nat))) := by
      simp only [strsIn, seqOf, lstOf, Option.bind_some, strsOf_strs]
    have e3 : ((((List.range n).map fun c => txt L (r, (c : Nat))).map (·.length)).sum + ((List.range n).map fun c => txt L (r, (c : Nat))).length * ("" : Str).length) ≤ 16777216 := by
      rw [sum_ones (fun z hz => by
        obtain ⟨c, hc, rfl⟩ := List.mem_map.mp hz
        obtain ⟨z, h1, h2, _⟩ := hF r c hr (List.mem_range.mp hc)
        simp [txt, h1, h2])]
      have : ("" : Str).length = 0 := by decide +kernel
      rw [this]
      simp; omega
    unfold semJoin
    simp only [semC_eq, bind_ok, e1, e2, e3, if_true]
    rfl
  have key2 : cLoop (gNm 3) (semC (.bl true)) (semJoin (semC (.str "")) (semLc finD (semArg bRange1 (semCons (semVar 1) semNil)) [4] (gNm 4) (semC (.bl true)) (sem2 opDGet (semVar 2) (semTup (semCons (semVar 3) (semCons (semVar 4) semNil)))))) [some (.int m), some (.int n), some (.own t), none, none] ((List.range m).map fun c => .int (c : Nat)) S = .ok ((List.range m).map fun r => .str (rowT L n (r : Nat))) S := by
    have := cLoop_map (i := 3) (ρ := [some (.int m), some (.int n), some (.own t), none, none]) (S := S) (fe := semJoin (semC (.str "")) (semLc finD (semArg bRange1 (semCons (semVar 1) semNil)) [4] (gNm 4) (semC (.bl true)) (sem2 opDGet (semVar 2) (semTup (semCons (semVar 3) (semCons (semVar 4) semNil)))))) (f := fun d => match d with | .int r => .str (rowT L n r) | _ => .non) (ds := (List.range m).map fun c => .int (c : Nat)) (fun d hd => by
      obtain ⟨r, hr, rfl⟩ := List.mem_map.mp hd
      exact hjoin r (List.mem_range.mp hr))
    rw [this, List.map_map]
    rfl
  have hl3 : ((List.range m).map fun c => D.int (c : Nat)).length ≤ 16777216 := by simp; omega
  have e0 : wipeE [some (.int m), some (.int n), some (.own t), none, none] [3] = [some (.int m), some (.int n), some (.own t), none, none] := rfl
  simp only [g__law_rows, semFn_eq, sem__law_rows, startE, sRet_eq, semCall_eq, semCons_eq, List.map_cons, List.map_nil, List.length_cons, List.length_nil, List.replicate, List.cons_append, List.nil_append]
  have e4 : semLc finD (semArg bRange1 (semCons (semVar 0) semNil)) [3] (gNm 3) (semC (.bl true)) (semJoin (semC (.str "")) (semLc finD (semArg bRange1 (semCons (semVar 1) semNil)) [4] (gNm 4) (semC (.bl true)) (sem2 opDGet (semVar 2) (semTup (semCons (semVar 3) (semCons (semVar 4) semNil)))))) [some (.int m), some (.int n), some (.own t), none, none] S = .ok (.lst ((List.range m).map fun r => .str (rowT L n (r : Nat)))) S := by
    rw [semLc_eq, rng1 hm rfl]
    simp only [bind_ok, kl, hl3, if_true, e0, key2, finD_eq]
  simp only [e4, bind_ok, semNil_eq]
  rfl
/-! ### the law's board -/
def movedAll (m n : Int) : List Deed → List (Cell × D) → List (Cell × D)
  | [], L => L
  | x :: xs, L => movedAll m n xs (moved (goal m n x) L)
theorem movedAll_brd {m n : Int} : ∀ {xs : List Deed} {L : List (Cell × D)}, Brd m n L → Brd m n (movedAll m n xs L)
  | [], _, h => h
  | x :: xs, L, h => by
    rw [movedAll]
    exact movedAll_brd (L := moved (goal m n x) L) (h.moved x)
theorem moved_length (f : Cell → Cell) (L : List (Cell × D)) : (moved f L).length = L.length := by simp [moved]
theorem movedAll_length {m n : Int} : ∀ {xs : List Deed} {L : List (Cell × D)}, (movedAll m n xs L).length = L.length
  | [], _ => rfl
  | x :: xs, L => by rw [movedAll, movedAll_length, moved_length]
theorem board_loop {m n : Int} (hm : 0 < m) (hn : 0 < n) {P : D} : ∀ (xs : List Deed) {S : Sto} {t : Nat} {L : List (Cell × D)} (z : Option D), (∀ x ∈ xs, x.Ok) → S[t]? = some (.dT (kv L)) → Brd m n L → L.length < 16777216 →
    ∃ z' t' G, sLoop (gNm 2) (sAsg (semCall (fun ds S => if ds.length = 4 then g__law_done ds S else .no) (semCons (semVar 3) (semCons (semVar 1) (semCons (semVar 4) (semCons (semVar 2) semNil))))) (gNm 4)) (xs.map Deed.d) [some P, some (.int n), z, some (.int m), some (.own t)] S =
      .nx [some P, some (.int n), z', some (.int m), some (.own t')] (S ++ G) ∧ (S ++ G)[t']? = some (.dT (kv (movedAll m n xs L)))
  | [], S, t, L, z, _, ht, _, _ => ⟨z, t, [], by simp [sLoop], by simpa [movedAll] using ht⟩
  | x :: xs, S, t, L, z, hx, ht, hL, hl => by
    have h1 := law_done_eq (hx x (List.mem_cons_self ..)) hm hn ht hL hl
    obtain ⟨z', t', G, h2, h3⟩ := board_loop hm hn (P := P) xs (S := S ++ [.dT (kv (moved (goal m n x) L))]) (t := S.length) (some x.d) (fun y hy => hx y (List.mem_cons_of_mem _ hy)) (get_last _ _) (hL.moved x) (by rw [moved_length]; exact hl)
    refine ⟨z', t', .dT (kv (moved (goal m n x) L)) :: G, ?_, ?_⟩
    · rw [List.map_cons]
      refine (sLoop_step (ρ1 := [some P, some (.int n), some x.d, some (.int m), some (.own t)]) rfl ?_).trans (h2.trans ?_)
      · simp [h1]
      · rw [List.append_assoc, List.singleton_append]
    · rw [List.append_assoc, List.singleton_append] at h3
      exact h3
theorem law_board_eq {S : Sto} {ws : List D} {xs : List Deed} {n : Nat} (hw0 : 0 < ws.length) (hw : ws.length ≤ 100) (hn0 : 0 < n) (hn : n ≤ 10000) (hx : ∀ x ∈ xs, x.Ok) (hF : Full (movedAll ws.length n xs (stripL 0 ws n)) ws.length n) :
    ∃ G, g__law_board [planD ws xs, .int n] S = .ok (rowsD (movedAll ws.length n xs (stripL 0 ws n)) ws.length n) (S ++ G) := by
  have hmul : ws.length * n ≤ 100 * 10000 := Nat.mul_le_mul hw hn
  have h1 := law_strips_eq (S := S) (ws := ws) (n := n) (by omega) (by omega) (by omega)
  obtain ⟨z', t', G, h2, h3⟩ := board_loop (m := ws.length) (n := n) (by omega) (by omega) (P := planD ws xs) xs (S := S ++ [.dT (kv (stripL 0 ws n))]) (t := S.length) none hx (get_last _ _) (stripL_brd ws n) (by rw [stripL_length]; omega)
  have h4 := law_rows_eq (S := S ++ [.dT (kv (stripL 0 ws n))] ++ G) h3 hF (by omega) (by omega)
  refine ⟨.dT (kv (stripL 0 ws n)) :: G, ?_⟩
  have i0 : ∀ S, opIx (planD ws xs) (.int 0) S = .ok (.tup ws) S := fun S => by simp [planD, atI, ixN]
  have i1 : ∀ S, opIx (planD ws xs) (.int 1) S = .ok (.tup (xs.map Deed.d)) S := fun S => by simp [planD, atI, ixN]
  have hfor := (sFor_ok (fi := semItems (sem2 opIx (semVar 0) (semC (.int 1)))) (g := gNm 2) (fb := sAsg (semCall (fun ds S => if ds.length = 4 then g__law_done ds S else .no) (semCons (semVar 3) (semCons (semVar 1) (semCons (semVar 4) (semCons (semVar 2) semNil))))) (gNm 4)) (ds := xs.map Deed.d) (ρ := [some (planD ws xs), some (.int n), none, some (.int ws.length), some (.own S.length)]) (S := S ++ [.dT (kv (stripL 0 ws n))]) (S1 := S ++ [.dT (kv (stripL 0 ws n))]) (by simp [i1])).trans h2
  simp only [g__law_board, semFn_eq, sem__law_board, startE, sSeq_eq, sPar_eq, semCons_eq, semCall_eq, sem2_eq, semVar_eq, semC_eq, semNil_eq, List.map_cons, List.map_nil, List.length_cons, List.length_nil, List.replicate, List.cons_append, List.nil_append, List.getElem?_cons_zero, List.getElem?_cons_succ, bind_ok, i0, bLen_tup, if_true, h1, toSA_ok, setAll_cons, setAll_nil, List.set_cons_succ, List.set_cons_zero, optS_some, seqS_nx, hfor, sRet_eq, h4, toS_ok, finR_rt]
  rw [List.append_assoc, List.singleton_append]
end Sh
namespace Sh
open PySem L2 GB TL
mutual
theorem eqv_refl : ∀ q : PyData, q.canLay0 = true → PyData.eqv q q = true
  | .none, _ => rfl
  | .bool b, _ => by cases b <;> rfl
  | .int i, _ => by show (i == i) = true; simp
  | .str x, _ => by show (x == x) = true; simp
  | .list xs, h => eqvAll_refl xs h
  | .tuple xs, h => eqvAll_refl xs h
  | .dict _, h => by cases h
theorem eqvAll_refl : ∀ qs : List PyData, PyData.canLayAll0 qs = true → PyData.eqvAll qs qs = true
  | [], _ => rfl
  | q :: qs, h => by
    rw [PyData.canLayAll0, Bool.and_eq_true] at h
    show (PyData.eqv q q && PyData.eqvAll qs qs) = true
    rw [eqv_refl q h.1, eqvAll_refl qs h.2]; rfl
end
/-- a tuple equals itself -/
theorem opNe_self {w n : Nat} {S : Sto} {xs : List D} (h : Val w n (.tup xs)) (hn : n ≤ 60) : opNe (.tup xs) (.tup xs) S = .ok (.bl false) S ∧ opEq (.tup xs) (.tup xs) S = .ok (.bl true) S := by
  obtain ⟨q, h1, h2, h3⟩ := val_toP h
  have e : toPS S (.tup xs) = some q := h1
  have s1 : SeqAt.shaped q = true := by simp [SeqAt.shaped, h2]; omega
  have e4 : eqD S (.tup xs) (.tup xs) = some true := by
    have : eqD S (.tup xs) (.tup xs) = (match toPS S (.tup xs), toPS S (.tup xs) with
      | some a, some b => if SeqAt.shaped a && SeqAt.shaped b then some (PyData.eqv a b) else none
      | _, _ => none) := rfl
    rw [this, e]
    simp only [s1, Bool.and_self, if_true, eqv_refl q h2]
  simp [opNe, opEq, e4]
theorem movedAll_append {m n : Int} : ∀ (xs ys : List Deed) (L : List (Cell × D)), movedAll m n (xs ++ ys) L = movedAll m n ys (movedAll m n xs L)
  | [], _, _ => rfl
  | x :: xs, ys, L => movedAll_append xs ys (moved (goal m n x) L)
theorem moved_back {m n : Int} {L : List (Cell × D)} (h : Brd m n L) (x : Deed) : moved (goal m n x.un) (moved (goal m n x) L) = L := by
  unfold moved
  rw [List.map_map]
  conv => rhs; rw [← List.map_id L]
  apply List.map_congr_left
  intro y hy
  simp only [Function.comp, goal_back x (h.in_ y hy), id]
/-- undoing leads back -/
theorem movedAll_undo {m n : Int} : ∀ (xs : List Deed) {L : List (Cell × D)}, Brd m n L → movedAll m n (xs ++ xs.reverse.map Deed.un) L = L
  | [], L, _ => rfl
  | x :: xs, L, h => by
    have e : (x :: xs) ++ (x :: xs).reverse.map Deed.un = x :: ((xs ++ xs.reverse.map Deed.un) ++ [x.un]) := by simp
    rw [e, movedAll, movedAll_append, movedAll_undo xs (h.moved x)]
    exact moved_back h x
theorem full_strips {ws : List D} {n : Nat} (hw : ∀ x ∈ ws, isWood x = true) : Full (stripL 0 ws n) ws.length n := by
  intro r c hr hc
  have hw' : ws[r]? = some ws[r] := by simp [hr]
  have hm := stripL_mem (r := 0) (n := n) (i := r) (c := c) hw' hc
  have := look_mem (stripL_brd ws n).nd hm
  rw [Nat.zero_add] at this
  have hwood := hw ws[r] (List.getElem_mem hr)
  cases hv : ws[r] with
  | str z =>
    rw [hv] at this hwood
    have hz : z ∈ woods4 := by simpa [isWood] using hwood
    refine ⟨z, this, wood_len hz, ?_⟩
    have : ∀ z ∈ woods4, PyData.strOk z = true := by decide +kernel
    exact this z hz
  | _ => rw [hv] at hwood; simp [isWood] at hwood
theorem strOk_tl (z : Str) : PyData.strOk z = (tl z).all fun c => decide (c < 0x110000) := by
  unfold PyData.strOk tl
  rw [← Array.all_toList]
theorem joinL_nil : ∀ ps : List (List Nat), joinL [] ps = ps.flatten
  | [] => rfl
  | [p] => by simp [joinL]
  | p :: q :: r => by rw [joinL, List.nil_append, joinL_nil (q :: r), ← List.flatten_cons]
theorem tl_joins (zs : List Str) : tl (Txt.join "" zs) = (zs.map tl).flatten := by
  rw [join_eq, tl_join]
  have : tl "" = [] := by decide +kernel
  rw [this, joinL_nil]
theorem strOk_joins {zs : List Str} (h : ∀ z ∈ zs, PyData.strOk z = true) : PyData.strOk (Txt.join "" zs) = true := by
  rw [strOk_tl, tl_joins, List.all_flatten, List.all_eq_true]
  intro l hl
  obtain ⟨z, hz, rfl⟩ := List.mem_map.mp hl
  rw [← strOk_tl]
  exact h z hz
theorem flat_ones : ∀ {zs : List Str}, (∀ z ∈ zs, z.length = 1) → (zs.map tl).flatten.length = zs.length
  | [], _ => rfl
  | z :: zs, h => by
    have := h z (List.mem_cons_self ..)
    rw [len_tl] at this
    rw [List.map_cons, List.flatten_cons, List.length_append, this, flat_ones fun y hy => h y (List.mem_cons_of_mem _ hy), List.length_cons]; omega
theorem rows_val {L : List (Cell × D)} {m n w : Nat} (hF : Full L m n) (hm : m ≤ w) (hn : n ≤ w) : Val w 2 (rowsD L m n) := by
  refine ⟨by simpa using hm, fun x hx => ?_⟩
  obtain ⟨r, hr, rfl⟩ := List.mem_map.mp hx
  have hr := List.mem_range.mp hr
  have ones : ∀ z ∈ (List.range n).map fun c => txt L (r, (c : Nat)), z.length = 1 ∧ PyData.strOk z = true := by
    intro z hz
    obtain ⟨c, hc, rfl⟩ := List.mem_map.mp hz
    obtain ⟨z, h1, h2, h3⟩ := hF r c hr (List.mem_range.mp hc)
    simp [txt, h1, h2, h3]
  refine val_str.mpr ⟨?_, strOk_joins fun z hz => (ones z hz).2⟩
  rw [rowT, len_tl, tl_joins, flat_ones fun z hz => (ones z hz).1]
  simpa using hn
/-! ### loops with an invariant -/
theorem sLoop_inv {g : SemG} {fb : SemS} (I : GB.Env → Sto → Prop) : ∀ {ds : List D} {ρ : GB.Env} {S : Sto}, I ρ S → (∀ d ∈ ds, ∀ ρ S, I ρ S → ∃ ρ1 ρ2 S2, g d ρ S = some ρ1 ∧ fb ρ1 S = .nx ρ2 S2 ∧ I ρ2 S2) → ∃ ρ' S', sLoop g fb ds ρ S = .nx ρ' S' ∧ I ρ' S'
  | [], ρ, S, h, _ => ⟨ρ, S, rfl, h⟩
  | d :: ds, ρ, S, h, hs => by
    obtain ⟨ρ1, ρ2, S2, h1, h2, h3⟩ := hs d (List.mem_cons_self ..) ρ S h
    obtain ⟨ρ', S', h4, h5⟩ := sLoop_inv I h3 fun e he => hs e (List.mem_cons_of_mem _ he)
    exact ⟨ρ', S', (sLoop_step h1 h2).trans h4, h5⟩
theorem stack_eq {c s : Int} {S : Sto} (hs : 0 ≤ s ∧ s < 10000) : ∃ a b, g__law_stack [.int c, .int s] S = .ok (.own S.length) (S ++ [.lst [.int a, .int b]]) ∧ 0 ≤ b ∧ b < 2147483648 := by
  have h1 : -18446744073709551616 < s ∧ s < 18446744073709551616 := by omega
  have hlog2 : ¬ 9000 ≤ Nat.log2 10 := by decide
  by_cases h : 1000000000000000000 ≤ c
  · refine ⟨c / 10 + 19 * s, (c * 47 + 1009 * s) % 1506789301 + 23, ?_, by omega, by omega⟩
    simp [g__law_stack, semFn_eq, sem__law_stack, startE, opPow, h, opDiv, opMod, hlog2]
  · refine ⟨0, (c * 47 + 1009 * s) % 1506789301 + 23, ?_, by omega, by omega⟩
    simp [g__law_stack, semFn_eq, sem__law_stack, startE, opPow, h, opDiv, opMod, hlog2]
theorem St.new {S : Sto} {a b : Int} (h0 : 0 ≤ b) (h1 : b < 2147483648) : St S.length (S ++ [.lst [.int a, .int b]]) := ⟨a, b, by simp, h0, h1⟩
theorem St.app {k : Nat} {S : Sto} (h : St k S) (G : Sto) : St k (S ++ G) := by
  obtain ⟨a, b, h, h0, h1⟩ := h
  exact ⟨a, b, by rw [List.getElem?_append_left (List.getElem?_eq_some_iff.mp h).1]; exact h, h0, h1⟩
theorem plan_val {ws : List D} {xs : List Deed} (hw : ∀ x ∈ ws, isWood x = true) (h1 : ws.length ≤ 10) (h2 : xs.length ≤ 10) (hx : ∀ x ∈ xs, x.Ok) : Val 10 3 (planD ws xs) := by
  have sdl : ∀ b, (sd b).length ≤ 10 ∧ PyData.strOk (sd b) = true := by intro b; cases b <;> decide +kernel
  have mvl : ∀ b, (mv b).length ≤ 10 ∧ PyData.strOk (mv b) = true := by intro b; cases b <;> decide +kernel
  have bl : ("back" : Str).length ≤ 10 ∧ PyData.strOk "back" = true := by decide +kernel
  have tl' : ("turn" : Str).length ≤ 10 ∧ PyData.strOk "turn" = true := by decide +kernel
  refine ⟨by simp, fun x hx' => ?_⟩
  simp only [List.mem_cons, List.not_mem_nil, or_false] at hx'
  rcases hx' with rfl | rfl
  · refine ⟨h1, fun y hy => ?_⟩
    have := hw y hy
    cases y with
    | str z =>
      have hz : z ∈ woods4 := by simpa [isWood] using this
      have a : ∀ z ∈ woods4, PyData.strOk z = true := by decide +kernel
      exact val_str.mpr ⟨by rw [wood_len hz]; omega, a z hz⟩
    | _ => simp [isWood] at this
  · refine ⟨by simpa using h2, fun y hy => ?_⟩
    obtain ⟨x, hx2, rfl⟩ := List.mem_map.mp hy
    cases x with
    | back s => exact ⟨by simp, by simp [Val, sdl, bl]⟩
    | move s b i => exact ⟨by simp, by simp [Val, sdl, mvl]⟩
    | turn s m r => exact ⟨by simp, by simp [Val, sdl, tl']⟩
theorem deed_val (x : Deed) : Val 10 1 x.d := by
  have sdl : ∀ b, (sd b).length ≤ 10 ∧ PyData.strOk (sd b) = true := by intro b; cases b <;> decide +kernel
  have mvl : ∀ b, (mv b).length ≤ 10 ∧ PyData.strOk (mv b) = true := by intro b; cases b <;> decide +kernel
  have bl : ("back" : Str).length ≤ 10 ∧ PyData.strOk "back" = true := by decide +kernel
  have tl' : ("turn" : Str).length ≤ 10 ∧ PyData.strOk "turn" = true := by decide +kernel
  cases x with
  | back s => exact ⟨by simp, by simp [Val, sdl, bl]⟩
  | move s b i => exact ⟨by simp, by simp [Val, sdl, mvl]⟩
  | turn s m r => exact ⟨by simp, by simp [Val, sdl, tl']⟩
theorem plan_isPlan {ws : List D} {xs : List Deed} (hw : ∀ x ∈ ws, isWood x = true) (h0 : 2 ≤ ws.length) (h1 : ws.length ≤ 4) (h2 : xs.length ≤ 6) (hx : ∀ x ∈ xs, x.Ok) : isPlan (planD ws xs) = true :=
  isPlan_of (by simp only [areWoods, Bool.and_eq_true, decide_eq_true_eq]; exact ⟨h0, h1, List.all_eq_true.mpr hw⟩) h2 hx
end Sh
namespace Sh
open PySem L2 GB
/-! ### where a cell came from; loops that hand back -/
def lead (m n : Int) (xs : List Deed) (y : Cell) : Cell := xs.foldr (fun x y => goal m n x.un y) y
theorem lead_eq {m n : Int} {xs : List Deed} {y : Cell} : xs.reverse.foldl (fun y x => goal m n x.un y) y = lead m n xs y := by
  rw [List.foldl_reverse]; rfl
theorem lead_in {m n : Int} : ∀ (xs : List Deed) {y : Cell}, InG m n y → InG m n (lead m n xs y)
  | [], _, h => h
  | x :: xs, _, h => goal_in x.un (lead_in xs h)
theorem un_ok {x : Deed} (h : x.Ok) : x.un.Ok := by
  cases x with
  | move s b i =>
    obtain ⟨a1, a2, a3⟩ := h
    exact ⟨by omega, by omega, by omega⟩
  | back s => trivial
  | turn s m r => exact h
theorem rev_deeds (xs : List Deed) (S : Sto) : opRev (.tup (xs.map Deed.d)) S = .ok (.tup (xs.reverse.map Deed.d)) S := by
  simp [opRev]
noncomputable abbrev srcBody : SemS := (sSeq (sPar [6, 7] (semCons (sem2 opIx (semVar 5) (semC (.int 0))) (semCons (sem2 opIx (semVar 5) (semC (.int 1))) semNil))) (sIf (semOr (semAnd (sem2 opEq (semVar 7) (semC (.str "back"))) (sem2 opEq (semVar 6) (semC (.str "rows")))) (semAnd (sem2 opEq (semVar 7) (semC (.str "turn"))) (semAnd (sem2 opEq (semVar 6) (semC (.str "slices"))) (sem2 opEq (sem2 opMod (semVar 4) (sem2 opIx (semVar 5) (semC (.int 2)))) (sem2 opIx (semVar 5) (semC (.int 3))))))) (sAsg (sem2 opSub (sem2 opSub (semVar 0) (semC (.int 1))) (semVar 3)) (gNm 3)) (sIf (semOr (semAnd (sem2 opEq (semVar 7) (semC (.str "back"))) (sem2 opEq (semVar 6) (semC (.str "slices")))) (semAnd (sem2 opEq (semVar 7) (semC (.str "turn"))) (semAnd (sem2 opEq (semVar 6) (semC (.str "rows"))) (sem2 opEq (sem2 opMod (semVar 3) (sem2 opIx (semVar 5) (semC (.int 2)))) (sem2 opIx (semVar 5) (semC (.int 3))))))) (sAsg (sem2 opSub (sem2 opSub (semVar 2) (semC (.int 1))) (semVar 4)) (gNm 4)) (sIf (semAnd (sem2 opEq (semVar 7) (semC (.str "roll"))) (sem2 opEq (semVar 6) (semC (.str "rows")))) (sAsg (sem2 opMod (sem2 opSub (semVar 3) (sem2 opIx (semVar 5) (semC (.int 2)))) (semVar 0)) (gNm 3)) (sIf (sem2 opEq (semVar 7) (semC (.str "roll"))) (sAsg (sem2 opMod (sem2 opSub (semVar 4) (sem2 opIx (semVar 5) (semC (.int 2)))) (semVar 2)) (gNm 4)) (sIf (semAnd (sem2 opEq (semVar 7) (semC (.str "shift"))) (sem2 opEq (semVar 6) (semC (.str "rows")))) (sAsg (sem2 opMod (sem2 opSub (semVar 4) (sem2 opMul (sem2 opIx (semVar 5) (semC (.int 2))) (semVar 3))) (semVar 2)) (gNm 4)) (sIf (sem2 opEq (semVar 7) (semC (.str "shift"))) (sAsg (sem2 opMod (sem2 opSub (semVar 3) (sem2 opMul (sem2 opIx (semVar 5) (semC (.int 2))) (semVar 4))) (semVar 0)) (gNm 3)) sNil)))))))
theorem src_step {m n r c : Int} {S : Sto} (x : Deed) (hx : x.Ok) (hm : 0 < m) (hn : 0 < n) (x1 x6 x7 : Option D) :
    ∃ y6 y7, srcBody [some (.int m), x1, some (.int n), some (.int r), some (.int c), some x.d, x6, x7] S = .nx [some (.int m), x1, some (.int n), some (.int (goal m n x.un (r, c)).1), some (.int (goal m n x.un (r, c)).2), some x.d, y6, y7] S := by
  obtain ⟨r1, r2, r3, r4, n1, n2, n3, n4, n5, n6, n7, n8, n9, n10, n11, n12, n13, n14⟩ := words
  have w : ∀ a b : Str, (a == b) = decide (a = b) := fun a b => rfl
  have k1 : ("turn" : Str) ≠ "back" := by decide +kernel
  have k2 : ("roll" : Str) ≠ "back" := by decide +kernel
  have k3 : ("shift" : Str) ≠ "back" := by decide +kernel
  have k4 : ("roll" : Str) ≠ "turn" := by decide +kernel
  have k5 : ("shift" : Str) ≠ "turn" := by decide +kernel
  have k6 : ("shift" : Str) ≠ "roll" := by decide +kernel
  have k7 : ("slices" : Str) ≠ "rows" := by decide +kernel
  have k8 : ("rows" : Str) ≠ "slices" := by decide +kernel
  have k9 : ("back" : Str) ≠ "turn" := by decide +kernel
  refine ⟨some (.str (match x with | .back s => sd s | .move s _ _ => sd s | .turn s _ _ => sd s)), some (.str (match x with | .back s => "back" | .move _ b _ => mv b | .turn s _ _ => "turn")), ?_⟩
  cases x with
  | back s => cases s <;> simp [srcBody, Deed.d, atI, ixN, sd, goal, Deed.un, k7, k8, k9]
  | move s b i =>
    have hb1 : -18446744073709551616 < i ∧ i < 18446744073709551616 := by
      obtain ⟨a1, a2, a3⟩ := hx; omega
    cases s <;> cases b <;> simp [srcBody, Deed.d, atI, ixN, sd, mv, goal, Deed.un, opMod, hm, hn, hb1, k1, k2, k3, k4, k5, k6, k7, k8, k9, Int.sub_eq_add_neg, Int.neg_mul]
  | turn s k q =>
    obtain ⟨h1, h2, h3, h4⟩ := hx
    have hk : 0 < k := by omega
    cases s
    · by_cases e : c % k = q <;> simp [srcBody, Deed.d, atI, ixN, sd, mv, goal, Deed.un, opMod, hk, e, k1, k7, k8, n3, n4]
    · by_cases e : r % k = q <;> simp [srcBody, Deed.d, atI, ixN, sd, mv, goal, Deed.un, opMod, hk, e, k1, k7, k8, n3, n4]
theorem src_loop {m n : Int} {S : Sto} (hm : 0 < m) (hn : 0 < n) (x1 : Option D) : ∀ (xs : List Deed) (y : Cell) (x5 x6 x7 : Option D), (∀ x ∈ xs, x.Ok) →
    ∃ y5 y6 y7, sLoop (gNm 5) srcBody (xs.map Deed.d) [some (.int m), x1, some (.int n), some (.int y.1), some (.int y.2), x5, x6, x7] S = .nx [some (.int m), x1, some (.int n), some (.int (xs.foldl (fun y x => goal m n x.un y) y).1), some (.int (xs.foldl (fun y x => goal m n x.un y) y).2), y5, y6, y7] S
  | [], y, x5, x6, x7, _ => ⟨x5, x6, x7, rfl⟩
  | x :: xs, y, x5, x6, x7, h => by
    obtain ⟨y6, y7, e⟩ := src_step (S := S) (r := y.1) (c := y.2) x (h x (List.mem_cons_self ..)) hm hn x1 x6 x7
    obtain ⟨z5, z6, z7, e2⟩ := src_loop (S := S) hm hn x1 xs (goal m n x.un y) (some x.d) y6 y7 fun z hz => h z (List.mem_cons_of_mem _ hz)
    exact ⟨z5, z6, z7, (sLoop_step (ρ1 := [some (.int m), x1, some (.int n), some (.int y.1), some (.int y.2), some x.d, x6, x7]) rfl e).trans e2⟩
theorem source_eq {m n r c : Int} {S : Sto} {xs : List Deed} (hx : ∀ x ∈ xs, x.Ok) (hm : 0 < m) (hn : 0 < n) : g_source [.int m, .tup (xs.map Deed.d), .int n, .int r, .int c] S = .ok (.int (lead m n xs (r, c)).1) S := by
  obtain ⟨y5, y6, y7, e⟩ := src_loop (S := S) hm hn (some (.tup (xs.map Deed.d))) xs.reverse (r, c) none none none fun z hz => hx z (List.mem_reverse.mp hz)
  rw [lead_eq] at e
  have hit : semItems (sem1 opRev (semVar 1)) [some (.int m), some (.tup (xs.map Deed.d)), some (.int n), some (.int r), some (.int c), none, none, none] S = .ok (xs.reverse.map Deed.d) S := by
    simp [opRev]
  have e2 : g_source [.int m, .tup (xs.map Deed.d), .int n, .int r, .int c] S = finR (sSeq (sFor (semItems (sem1 opRev (semVar 1))) (gNm 5) srcBody) (sRet (semVar 3)) [some (.int m), some (.tup (xs.map Deed.d)), some (.int n), some (.int r), some (.int c), none, none, none] S) := rfl
  rw [e2, sSeq_eq, (sFor_ok hit).trans e, seqS_nx]
  simp
noncomputable abbrev lsrcBody : SemS := (sSeq (sAsg (sem2 opIx (semVar 5) (semC (.int 1))) (gNm 6)) (sSeq (sAsg (semIte (sem2 opIn (semVar 6) (semTup (semCons (semC (.str "turn")) (semCons (semC (.str "back")) semNil)))) (semVar 5) (sem2 opAdd (semSl (semVar 5) .no (.e (semC (.int 2)))) (semTup (semCons (sem1 opNeg (sem2 opIx (semVar 5) (semC (.int 2)))) semNil)))) (gNm 7)) (sAsg (semCall (fun ds S => if ds.length = 5 then g__law_goal ds S else .no) (semCons (semVar 4) (semCons (semVar 1) (semCons (semVar 7) (semCons (semVar 2) (semCons (semVar 3) semNil)))))) (gTp [2, 3]))))
theorem lsrc_step {m n r c : Int} {S : Sto} (x : Deed) (hx : x.Ok) (hm : 0 < m) (hn : 0 < n) (x0 x6 x7 : Option D) :
    ∃ y6 y7, lsrcBody [x0, some (.int n), some (.int r), some (.int c), some (.int m), some x.d, x6, x7] S = .nx [x0, some (.int n), some (.int (goal m n x.un (r, c)).1), some (.int (goal m n x.un (r, c)).2), some (.int m), some x.d, y6, y7] S := by
  have st : PyData.strOk "turn" = true := by decide +kernel
  have sb : PyData.strOk "back" = true := by decide +kernel
  have sm : ∀ b, PyData.strOk (mv b) = true := by intro b; cases b <;> decide +kernel
  have k1 : ∀ b, mv b ≠ "turn" ∧ mv b ≠ "back" := by intro b; cases b <;> decide +kernel
  have c3 : ∀ a b c : D, cutD [a, b, c] none (some 2) = [a, b] := fun a b c => rfl
  have hg := law_goal_eq (m := m) (n := n) (r := r) (c := c) (S := S) x.un (un_ok hx) hm hn fun i h1 h2 => by omega
  refine ⟨some (.str (match x with | .back s => "back" | .move _ b _ => mv b | .turn s _ _ => "turn")), some x.un.d, ?_⟩
  cases x with
  | back s =>
    simp only [Deed.un, Deed.d] at hg
    simp [lsrcBody, Deed.d, Deed.un, atI, ixN, (opIn2 (S := S) sb st sb).1, hg]
  | turn s k q =>
    simp only [Deed.un, Deed.d] at hg
    simp [lsrcBody, Deed.d, Deed.un, atI, ixN, (opIn2 (S := S) st st sb).1, hg]
  | move s b i =>
    simp only [Deed.un, Deed.d] at hg
    simp [lsrcBody, Deed.d, Deed.un, atI, ixN, (opIn2 (S := S) (sm b) st sb).1, (k1 b).1, (k1 b).2, semSl, OEx.run, opSl, c3, opAdd, hg]
theorem lsrc_loop {m n : Int} {S : Sto} (hm : 0 < m) (hn : 0 < n) (x0 : Option D) : ∀ (xs : List Deed) (y : Cell) (x5 x6 x7 : Option D), (∀ x ∈ xs, x.Ok) →
    ∃ y5 y6 y7, sLoop (gNm 5) lsrcBody (xs.map Deed.d) [x0, some (.int n), some (.int y.1), some (.int y.2), some (.int m), x5, x6, x7] S = .nx [x0, some (.int n), some (.int (xs.foldl (fun y x => goal m n x.un y) y).1), some (.int (xs.foldl (fun y x => goal m n x.un y) y).2), some (.int m), y5, y6, y7] S
  | [], y, x5, x6, x7, _ => ⟨x5, x6, x7, rfl⟩
  | x :: xs, y, x5, x6, x7, h => by
    obtain ⟨y6, y7, e⟩ := lsrc_step (S := S) (r := y.1) (c := y.2) x (h x (List.mem_cons_self ..)) hm hn x0 x6 x7
    obtain ⟨z5, z6, z7, e2⟩ := lsrc_loop (S := S) hm hn x0 xs (goal m n x.un y) (some x.d) y6 y7 fun z hz => h z (List.mem_cons_of_mem _ hz)
    exact ⟨z5, z6, z7, (sLoop_step (ρ1 := [x0, some (.int n), some (.int y.1), some (.int y.2), some (.int m), some x.d, x6, x7]) rfl e).trans e2⟩
theorem law_source_eq {n r c : Int} {S : Sto} {ws : List D} {xs : List Deed} (hx : ∀ x ∈ xs, x.Ok) (hm : 0 < ws.length) (hn : 0 < n) : g__law_source [planD ws xs, .int n, .int r, .int c] S = .ok (.int (lead ws.length n xs (r, c)).1) S := by
  obtain ⟨y5, y6, y7, e⟩ := lsrc_loop (m := ws.length) (S := S) (by omega) hn (some (planD ws xs)) xs.reverse (r, c) none none none fun z hz => hx z (List.mem_reverse.mp hz)
  rw [lead_eq] at e
  have hit : semItems (sem1 opRev (sem2 opIx (semVar 0) (semC (.int 1)))) [some (planD ws xs), some (.int n), some (.int r), some (.int c), some (.int ws.length), none, none, none] S = .ok (xs.reverse.map Deed.d) S := by
    simp [opRev, planD, atI, ixN]
  have e2 : g__law_source [planD ws xs, .int n, .int r, .int c] S = finR (sSeq (sAsg (semCall bLen (semCons (sem2 opIx (semVar 0) (semC (.int 0))) semNil)) (gNm 4)) (sSeq (sFor (semItems (sem1 opRev (sem2 opIx (semVar 0) (semC (.int 1))))) (gNm 5) lsrcBody) (sRet (semVar 2))) [some (planD ws xs), some (.int n), some (.int r), some (.int c), none, none, none, none] S) := rfl
  have e3 : sAsg (semCall bLen (semCons (sem2 opIx (semVar 0) (semC (.int 0))) semNil)) (gNm 4) [some (planD ws xs), some (.int n), some (.int r), some (.int c), none, none, none, none] S = .nx [some (planD ws xs), some (.int n), some (.int r), some (.int c), some (.int ws.length), none, none, none] S := by
    simp [planD, atI, ixN]
  rw [e2, sSeq_eq, e3, seqS_nx, sSeq_eq, (sFor_ok hit).trans e, seqS_nx]
  simp
/-- a loop that may hand back: the first item that does -/
theorem sLoop_ret {g : SemG} {fb : SemS} {S : Sto} (I : GB.Env → Prop) (f : D → Option D) : ∀ {ds : List D} {ρ : GB.Env}, I ρ → (∀ d ∈ ds, ∀ ρ, I ρ → ∃ ρ1, g d ρ S = some ρ1 ∧ ((f d = none ∧ ∃ ρ2, fb ρ1 S = .nx ρ2 S ∧ I ρ2) ∨ ∃ v, f d = some v ∧ fb ρ1 S = .rt v S)) →
    (ds.findSome? f = none ∧ ∃ ρ', sLoop g fb ds ρ S = .nx ρ' S ∧ I ρ') ∨ ∃ v, ds.findSome? f = some v ∧ sLoop g fb ds ρ S = .rt v S
  | [], ρ, h, _ => .inl ⟨rfl, ρ, rfl, h⟩
  | d :: ds, ρ, h, hs => by
    obtain ⟨ρ1, h1, h2⟩ := hs d (List.mem_cons_self ..) ρ h
    rcases h2 with ⟨h2, ρ2, h3, h4⟩ | ⟨v, h2, h3⟩
    · have ih := sLoop_ret (g := g) (fb := fb) (S := S) I f (ds := ds) h4 fun e he => hs e (List.mem_cons_of_mem _ he)
      rw [sLoop_step h1 h3, List.findSome?_cons, h2]
      exact ih
    · refine .inr ⟨v, by rw [List.findSome?_cons, h2], ?_⟩
      conv => lhs; unfold sLoop
      rw [h1]
      simp only [h3]
end Sh
namespace Sh
open PySem L2 GB
/-! ### cells that were seen -/
structure Sn where
  n : Int
  r : Int
  c : Int
  w : Str
def Sn.d (s : Sn) : D := .tup [.int s.n, .int s.r, .int s.c, .str s.w]
def Sn.Ok (m : Nat) (s : Sn) : Prop := 1 ≤ s.n ∧ s.n ≤ 10 ^ 30 ∧ 0 ≤ s.r ∧ s.r < m ∧ 0 ≤ s.c ∧ s.c < s.n ∧ s.w ∈ woods4
def root (m : Nat) (xs : List Deed) (s : Sn) : Int := (lead m s.n xs (s.r, s.c)).1
theorem root_in {m : Nat} {xs : List Deed} {s : Sn} (h : s.Ok m) : 0 ≤ root m xs s ∧ root m xs s < m := by
  obtain ⟨h1, h2, h3, h4, h5, h6, h7⟩ := h
  have := lead_in (m := m) (n := s.n) xs (y := (s.r, s.c)) ⟨h3, h4, h5, h6⟩
  exact ⟨this.1, this.2.1⟩
theorem strips_seen_eq {S : Sto} {ws : List D} {xs : List Deed} {ss : List Sn} (hx : ∀ x ∈ xs, x.Ok) (hm : 0 < ws.length) (hs : ∀ s ∈ ss, s.Ok ws.length) (hl : ss.length ≤ 100) :
    g_strips_seen [planD ws xs, .tup (ss.map Sn.d)] S = .ok (.lst (ss.map fun s => D.int (root ws.length xs s))) S := by
  have key : cLoop (gNm 2) (semC (.bl true)) (semCall (fun ds S => if ds.length = 5 then g_source ds S else .no) (semCons (semCall bLen (semCons (sem2 opIx (semVar 0) (semC (.int 0))) semNil)) (semCons (sem2 opIx (semVar 0) (semC (.int 1))) (semCons (sem2 opIx (semVar 2) (semC (.int 0))) (semCons (sem2 opIx (semVar 2) (semC (.int 1))) (semCons (sem2 opIx (semVar 2) (semC (.int 2))) semNil)))))) [some (planD ws xs), some (.tup (ss.map Sn.d)), none] (ss.map Sn.d) S = .ok (ss.map fun s => D.int (root ws.length xs s)) S := by
    have := cLoop_map (i := 2) (ρ := [some (planD ws xs), some (.tup (ss.map Sn.d)), none]) (S := S) (f := fun d => match d with | .tup [.int n, .int r, .int c, _] => .int (lead ws.length n xs (r, c)).1 | _ => .non) (ds := ss.map Sn.d) (fe := semCall (fun ds S => if ds.length = 5 then g_source ds S else .no) (semCons (semCall bLen (semCons (sem2 opIx (semVar 0) (semC (.int 0))) semNil)) (semCons (sem2 opIx (semVar 0) (semC (.int 1))) (semCons (sem2 opIx (semVar 2) (semC (.int 0))) (semCons (sem2 opIx (semVar 2) (semC (.int 1))) (semCons (sem2 opIx (semVar 2) (semC (.int 2))) semNil)))))) (fun d hd => by
      obtain ⟨s, h, rfl⟩ := List.mem_map.mp hd
      have ho := hs s h
      have := source_eq (m := ws.length) (n := s.n) (r := s.r) (c := s.c) (S := S) (xs := xs) hx (by omega) (by have := ho.1; omega)
      simp [planD, Sn.d, atI, ixN, this])
    rw [this, List.map_map]
    rfl
  have hl2 : ss.length ≤ 16777216 := by omega
  simp [g_strips_seen, semFn_eq, sem_strips_seen, startE, wipeE, hl2, key]
theorem atI_map {α : Type} {f : α → D} {ss : List α} {i : Int} {a : α} (h0 : 0 ≤ i) (h : ss[i.toNat]? = some a) : atI (ss.map f) i = some (f a) := by
  have hl := (List.getElem?_eq_some_iff.mp h).1
  have h1 : i < ss.length := by omega
  have h2 : ss[i.toNat] = a := by
    have := List.getElem?_eq_getElem hl
    rw [h] at this
    exact (Option.some.inj this).symm
  simp [atI, ixN, h0, h1, h2]
section
variable (m : Nat) (xs : List Deed) (ss : List Sn)
def clB (i j : Int) : Bool := match ss[i.toNat]?, ss[j.toNat]? with
  | some a, some b => decide (root m xs a = root m xs b) && !decide (a.w = b.w)
  | _, _ => false
def pr (i : Int) : D → Option D
  | .int j => if clB m xs ss i j = true then some (.tup [.int i, .int j]) else none
  | _ => none
def idx (i : Int) : List D := (List.range ((ss.length : Int) - (i + 1)).toNat).map fun t => .int ((i + 1) + (t : Nat))
def prs : D → List D
  | .int i => (idx ss i).filterMap (pr m xs ss i)
  | _ => []
def ups : List D := (List.range ss.length).map fun i => .int (i : Nat)
def pairsOf : List D := (ups ss).flatMap (prs m xs ss)
end
theorem idx_mem {ss : List Sn} {i : Int} {d : D} (h : d ∈ idx ss i) : ∃ j : Int, d = .int j ∧ i < j ∧ j < ss.length := by
  obtain ⟨t, ht, rfl⟩ := List.mem_map.mp h
  have := List.mem_range.mp ht
  exact ⟨_, rfl, by omega, by omega⟩
theorem ups_mem {ss : List Sn} {d : D} (h : d ∈ ups ss) : ∃ i : Int, d = .int i ∧ 0 ≤ i ∧ i < ss.length := by
  obtain ⟨t, ht, rfl⟩ := List.mem_map.mp h
  have := List.mem_range.mp ht
  exact ⟨_, rfl, by omega, by omega⟩
theorem idx_range {ss : List Sn} {i : Int} {S : Sto} (h0 : 0 ≤ i) (hl : ss.length ≤ 100) (h1 : i < ss.length) : bRange2 [.int (i + 1), .int ss.length] S = .ok (idx ss i) S := by
  rw [bRange2_ok (by omega) (by omega)]
  rfl
theorem ups_range {ss : List Sn} {S : Sto} (hl : ss.length ≤ 100) : bRange1 [.int ss.length] S = .ok (ups ss) S := by
  rw [bRange1_ok (by omega)]
  simp [ups]
noncomputable abbrev clTest (a b c d e : Nat) : Sem := (semAnd (sem2 opEq (sem2 opIx (semVar a) (semVar c)) (sem2 opIx (semVar a) (semVar d))) (sem2 opNe (sem2 opIx (sem2 opIx (semVar b) (semVar c)) (semC (.int 3))) (sem2 opIx (sem2 opIx (semVar b) (semVar d)) (semC (.int 3)))))
theorem clB_some {m : Nat} {xs : List Deed} {ss : List Sn} {i j : Int} (h0 : 0 ≤ i) (h1 : i < ss.length) (g0 : 0 ≤ j) (g1 : j < ss.length) : ∃ a b, ss[i.toNat]? = some a ∧ ss[j.toNat]? = some b ∧ clB m xs ss i j = (decide (root m xs a = root m xs b) && !decide (a.w = b.w)) := by
  have e1 : ss[i.toNat]? = some (ss[i.toNat]'(by omega)) := List.getElem?_eq_getElem _
  have e2 : ss[j.toNat]? = some (ss[j.toNat]'(by omega)) := List.getElem?_eq_getElem _
  exact ⟨_, _, e1, e2, by unfold clB; rw [e1, e2]⟩
noncomputable abbrev clInner : SemS := sFor (semArg bRange2 (semCons (sem2 opAdd (semVar 3) (semC (.int 1))) (semCons (semCall bLen (semCons (semVar 1) semNil)) semNil))) (gNm 4) (sIf (semAnd (sem2 opEq (sem2 opIx (semVar 2) (semVar 3)) (sem2 opIx (semVar 2) (semVar 4))) (sem2 opNe (sem2 opIx (sem2 opIx (semVar 1) (semVar 3)) (semC (.int 3))) (sem2 opIx (sem2 opIx (semVar 1) (semVar 4)) (semC (.int 3))))) (sRet (semTup (semCons (semVar 3) (semCons (semVar 4) semNil)))) sNil)
theorem clash_inner {m : Nat} {xs : List Deed} {ss : List Sn} {S : Sto} {i : Int} (h0 : 0 ≤ i) (h1 : i < ss.length) (hl : ss.length ≤ 100) (x0 x4 : Option D) :
    ((prs m xs ss (.int i)).head? = none ∧ ∃ y4, clInner [x0, some (.tup (ss.map Sn.d)), some (.lst (ss.map fun s => D.int (root m xs s))), some (.int i), x4] S = .nx [x0, some (.tup (ss.map Sn.d)), some (.lst (ss.map fun s => D.int (root m xs s))), some (.int i), y4] S) ∨
    ∃ v, (prs m xs ss (.int i)).head? = some v ∧ clInner [x0, some (.tup (ss.map Sn.d)), some (.lst (ss.map fun s => D.int (root m xs s))), some (.int i), x4] S = .rt v S := by
  have hit : semArg bRange2 (semCons (sem2 opAdd (semVar 3) (semC (.int 1))) (semCons (semCall bLen (semCons (semVar 1) semNil)) semNil)) [x0, some (.tup (ss.map Sn.d)), some (.lst (ss.map fun s => D.int (root m xs s))), some (.int i), x4] S = .ok (idx ss i) S := by
    simp [idx_range h0 hl h1]
  have hd : (prs m xs ss (.int i)).head? = (idx ss i).findSome? (pr m xs ss i) := by
    simp only [prs, List.head?_filterMap]
  rw [hd]
  unfold clInner
  rw [sFor_ok hit]
  rcases sLoop_ret (g := gNm 4) (S := S) (fb := sIf (semAnd (sem2 opEq (sem2 opIx (semVar 2) (semVar 3)) (sem2 opIx (semVar 2) (semVar 4))) (sem2 opNe (sem2 opIx (sem2 opIx (semVar 1) (semVar 3)) (semC (.int 3))) (sem2 opIx (sem2 opIx (semVar 1) (semVar 4)) (semC (.int 3))))) (sRet (semTup (semCons (semVar 3) (semCons (semVar 4) semNil)))) sNil)
    (fun ρ => ∃ y, ρ = [x0, some (.tup (ss.map Sn.d)), some (.lst (ss.map fun s => D.int (root m xs s))), some (.int i), y]) (pr m xs ss i) (ds := idx ss i) ⟨x4, rfl⟩ (by
      rintro d hd ρ ⟨y, rfl⟩
      obtain ⟨j, rfl, j0, j1⟩ := idx_mem hd
      obtain ⟨a, b, ea, eb, ec⟩ := clB_some (m := m) (xs := xs) h0 h1 (by omega : 0 ≤ j) j1
      have f1 := atI_map (f := fun s => D.int (root m xs s)) h0 ea
      have f2 := atI_map (f := fun s => D.int (root m xs s)) (by omega : 0 ≤ j) eb
      have f3 := atI_map (f := Sn.d) h0 ea
      have f4 := atI_map (f := Sn.d) (by omega : 0 ≤ j) eb
      have a3 : ∀ p q r w : D, atI [p, q, r, w] 3 = some w := fun p q r w => rfl
      refine ⟨_, rfl, ?_⟩
      simp only [pr, ec]
      by_cases e1 : root m xs a = root m xs b
      · by_cases e2 : a.w = b.w
        · refine .inl ⟨by simp [e2], ?_⟩
          exact ⟨[x0, some (.tup (ss.map Sn.d)), some (.lst (ss.map fun s => D.int (root m xs s))), some (.int i), some (.int j)], by simp [f1, f2, f3, f4, Sn.d, a3, e1, e2], _, rfl⟩
        · refine .inr ⟨_, by simp [e1, e2]; rfl, ?_⟩
          simp [f1, f2, f3, f4, Sn.d, a3, e1, e2]
      · refine .inl ⟨by simp [e1], ?_⟩
        exact ⟨[x0, some (.tup (ss.map Sn.d)), some (.lst (ss.map fun s => D.int (root m xs s))), some (.int i), some (.int j)], by simp [f1, f2, f3, f4, Sn.d, a3, e1], _, rfl⟩) with ⟨h2, ρ', h3, y, rfl⟩ | ⟨v, h2, h3⟩
  · exact .inl ⟨h2, y, h3⟩
  · exact .inr ⟨v, h2, h3⟩
theorem clash_of_eq {S : Sto} {ws : List D} {xs : List Deed} {ss : List Sn} (hx : ∀ x ∈ xs, x.Ok) (hm : 0 < ws.length) (hs : ∀ s ∈ ss, s.Ok ws.length) (hl : ss.length ≤ 100) :
    g_clash_of [planD ws xs, .tup (ss.map Sn.d)] S = .ok ((pairsOf ws.length xs ss).head?.getD .non) S := by
  have hst := strips_seen_eq (S := S) hx hm hs hl
  have e2 : g_clash_of [planD ws xs, .tup (ss.map Sn.d)] S = finR (sSeq (sAsg (semCall (fun ds S => if ds.length = 2 then g_strips_seen ds S else .no) (semCons (semVar 0) (semCons (semVar 1) semNil))) (gNm 2)) (sSeq (sFor (semArg bRange1 (semCons (semCall bLen (semCons (semVar 1) semNil)) semNil)) (gNm 3) clInner) (sRet (semC .non))) [some (planD ws xs), some (.tup (ss.map Sn.d)), none, none, none] S) := rfl
  have e3 : sAsg (semCall (fun ds S => if ds.length = 2 then g_strips_seen ds S else .no) (semCons (semVar 0) (semCons (semVar 1) semNil))) (gNm 2) [some (planD ws xs), some (.tup (ss.map Sn.d)), none, none, none] S = .nx [some (planD ws xs), some (.tup (ss.map Sn.d)), some (.lst (ss.map fun s => D.int (root ws.length xs s))), none, none] S := by
    simp [hst]
  have hit : semArg bRange1 (semCons (semCall bLen (semCons (semVar 1) semNil)) semNil) [some (planD ws xs), some (.tup (ss.map Sn.d)), some (.lst (ss.map fun s => D.int (root ws.length xs s))), none, none] S = .ok (ups ss) S := by
    simp [ups_range hl]
  rw [e2, sSeq_eq, e3, seqS_nx, sSeq_eq, sFor_ok hit]
  have hh : (pairsOf ws.length xs ss).head? = (ups ss).findSome? fun d => (prs ws.length xs ss d).head? := by
    simp only [pairsOf, List.head?_flatMap]
  rw [hh]
  rcases sLoop_ret (g := gNm 3) (S := S) (fb := clInner) (fun ρ => ∃ y z, ρ = [some (planD ws xs), some (.tup (ss.map Sn.d)), some (.lst (ss.map fun s => D.int (root ws.length xs s))), y, z]) (fun d => (prs ws.length xs ss d).head?) (ds := ups ss) (ρ := [some (planD ws xs), some (.tup (ss.map Sn.d)), some (.lst (ss.map fun s => D.int (root ws.length xs s))), none, none]) ⟨none, none, rfl⟩ (by
      rintro d hd ρ ⟨y, z, rfl⟩
      obtain ⟨i, rfl, i0, i1⟩ := ups_mem hd
      refine ⟨_, rfl, ?_⟩
      rcases clash_inner (m := ws.length) (xs := xs) (ss := ss) (S := S) i0 i1 hl (some (planD ws xs)) z with ⟨q1, y4, q2⟩ | ⟨v, q1, q2⟩
      · exact .inl ⟨q1, _, q2, _, _, rfl⟩
      · exact .inr ⟨v, q1, q2⟩) with ⟨h2, ρ', h3, y, z, rfl⟩ | ⟨v, h2, h3⟩
  · rw [h3, h2]; simp
  · rw [h3, h2]; simp
end Sh
namespace Sh
open PySem L2 GB
/-! ### more about loops, dicts, lists of the store -/
theorem own_eqs {S : Sto} {k : Nat} {ys zs : List D} (h : lstOf S (.own k) = some ys) : opNe (.own k) (.lst zs) S = opNe (.lst ys) (.lst zs) S ∧ opEq (.own k) (.lst zs) S = opEq (.lst ys) (.lst zs) S := by
  have e1 : toPS S (.own k) = (toPs ys).map .list := by
    show (lstOf S (.own k)).bind _ = _
    rw [h]; rfl
  have e2 : toPS S (.lst ys) = (toPs ys).map .list := rfl
  have e3 : eqD S (.own k) (.lst zs) = eqD S (.lst ys) (.lst zs) := by
    show (match toPS S (.own k), toPS S (.lst zs) with
      | some a, some b => if SeqAt.shaped a && SeqAt.shaped b then some (PyData.eqv a b) else none
      | _, _ => none) = (match toPS S (.lst ys), toPS S (.lst zs) with
      | some a, some b => if SeqAt.shaped a && SeqAt.shaped b then some (PyData.eqv a b) else none
      | _, _ => none)
    rw [e1, e2]
  simp only [opNe, opEq, e3, and_self]
/-- a list equals itself -/
theorem opEq_lst {w n : Nat} {S : Sto} {xs : List D} (h : Val w n (.lst xs)) (hn : n ≤ 60) : opNe (.lst xs) (.lst xs) S = .ok (.bl false) S ∧ opEq (.lst xs) (.lst xs) S = .ok (.bl true) S := by
  obtain ⟨q, h1, h2, h3⟩ := val_toP h
  have e : toPS S (.lst xs) = some q := h1
  have s1 : SeqAt.shaped q = true := by simp [SeqAt.shaped, h2]; omega
  have e4 : eqD S (.lst xs) (.lst xs) = some true := by
    have : eqD S (.lst xs) (.lst xs) = (match toPS S (.lst xs), toPS S (.lst xs) with
      | some a, some b => if SeqAt.shaped a && SeqAt.shaped b then some (PyData.eqv a b) else none
      | _, _ => none) := rfl
    rw [this, e]
    simp only [s1, Bool.and_self, if_true, eqv_refl q h2]
  simp [opNe, opEq, e4]
theorem cLoop_gen {g : SemG} {fe : Sem} {ρ : GB.Env} {S : Sto} {f : D → D} : ∀ {ds : List D}, (∀ d ∈ ds, ∃ ρ1, g d ρ S = some ρ1 ∧ fe ρ1 S = .ok (f d) S) → cLoop g (semC (.bl true)) fe ρ ds S = .ok (ds.map f) S
  | [], _ => rfl
  | d :: ds, h => by
    obtain ⟨ρ1, h1, h2⟩ := h d (List.mem_cons_self ..)
    have ih := cLoop_gen (g := g) (fe := fe) (ρ := ρ) (S := S) (f := f) (ds := ds) fun e he => h e (List.mem_cons_of_mem _ he)
    unfold cLoop
    rw [h1]
    simp only [semC_eq, h2, ih, bind_ok, List.map_cons]
theorem zipL_map {α : Type} (f g : α → D) : ∀ ss : List α, zipL (ss.map f) (ss.map g) = ss.map fun s => .tup [f s, g s]
  | [] => rfl
  | s :: ss => by
    show .tup [f s, g s] :: zipL (ss.map f) (ss.map g) = _
    rw [zipL_map f g ss]; rfl
theorem valD_put {κ : Type} [DecidableEq κ] (k k' : κ) (v : D) (kvs : List (κ × D)) : valD (putD kvs k v) k' = if k = k' then some v else valD kvs k' := by
  unfold putD
  split
  · rename_i h
    revert h
    induction kvs with
    | nil => intro h; simp at h
    | cons y ys ih =>
      intro h
      obtain ⟨a, b⟩ := y
      have e0 : ∀ (z : κ × D) (zs : List (κ × D)), valD (z :: zs) k' = if z.1 = k' then some z.2 else valD zs k' := fun z zs => by
        unfold valD
        rw [List.find?_cons]
        by_cases e : z.1 = k'
        · simp [e]
        · simp [e]
      rw [List.map_cons, e0, e0]
      by_cases e1 : a = k
      · subst e1
        rw [if_pos rfl]
        by_cases e2 : a = k'
        · rw [if_pos e2, if_pos e2]
        · simp only [if_neg e2]
          clear ih h
          induction ys with
          | nil => rfl
          | cons y ys ih =>
            obtain ⟨c, d⟩ := y
            rw [List.map_cons, e0, e0, ih]
            by_cases e3 : c = a
            · subst e3; simp [e2]
            · simp [e3]
      · rw [if_neg e1]
        have h' : (ys.any fun kv => decide (kv.1 = k)) = true := by
          simpa [e1] using h
        rw [ih h']
        by_cases e2 : a = k'
        · have : ¬ k = k' := fun z => e1 (e2.trans z.symm)
          simp [e2, this]
        · simp [e2]
  · rename_i h
    unfold valD
    rw [List.find?_append]
    by_cases e : k = k'
    · subst e
      have : kvs.find? (fun kv => decide (kv.1 = k)) = none := by
        rw [List.find?_eq_none]
        intro x hx z
        exact h (List.any_eq_true.mpr ⟨x, hx, z⟩)
      simp [this]
    · simp [e]
/-- a loop over range, by how far it has come -/
theorem sLoop_from {g : SemG} {fb : SemS} (I : Nat → GB.Env → Sto → Prop) (f : Nat → D) (n : Nat) (hs : ∀ t < n, ∀ ρ S, I t ρ S → ∃ ρ1 ρ2 S2, g (f t) ρ S = some ρ1 ∧ fb ρ1 S = .nx ρ2 S2 ∧ I (t + 1) ρ2 S2) : ∀ (k t : Nat) (ρ : GB.Env) (S : Sto), t + k = n → I t ρ S → ∃ ρ' S', sLoop g fb ((List.range' t k).map f) ρ S = .nx ρ' S' ∧ I n ρ' S'
  | 0, t, ρ, S, e, h => ⟨ρ, S, rfl, by have : t = n := by omega
                                       rw [← this]; exact h⟩
  | k + 1, t, ρ, S, e, h => by
    obtain ⟨ρ1, ρ2, S2, h1, h2, h3⟩ := hs t (by omega) ρ S h
    obtain ⟨ρ', S', h4, h5⟩ := sLoop_from I f n hs k (t + 1) ρ2 S2 (by omega) h3
    exact ⟨ρ', S', (sLoop_step h1 h2).trans h4, h5⟩
theorem sLoop_upto {g : SemG} {fb : SemS} (I : Nat → GB.Env → Sto → Prop) (f : Nat → D) (n : Nat) {ρ : GB.Env} {S : Sto} (h0 : I 0 ρ S) (hs : ∀ t < n, ∀ ρ S, I t ρ S → ∃ ρ1 ρ2 S2, g (f t) ρ S = some ρ1 ∧ fb ρ1 S = .nx ρ2 S2 ∧ I (t + 1) ρ2 S2) : ∃ ρ' S', sLoop g fb ((List.range n).map f) ρ S = .nx ρ' S' ∧ I n ρ' S' := by
  rw [List.range_eq_range']
  exact sLoop_from I f n hs n 0 ρ S (by omega) h0
theorem get_app1 (S : Sto) (a b : O) : (S ++ [a, b])[S.length]? = some a := by simp
theorem get_app2 (S : Sto) (a b : O) : (S ++ [a, b])[S.length + 1]? = some b := by simp
theorem set_app1 (S : Sto) (a b c : O) : (S ++ [a, b]).set S.length c = S ++ [c, b] := by
  rw [List.set_append_right _ _ (Nat.le_refl _)]; simp
theorem set_app2 (S : Sto) (a b c : O) : (S ++ [a, b]).set (S.length + 1) c = S ++ [a, c] := by
  rw [List.set_append_right _ _ (by omega)]; simp
theorem opRepO_lst {xs : List D} {n : Nat} {S : Sto} (h : n ≤ 1000) (g : xs.length ≤ 1000) : opRepO (.lst xs) (.int n) S = .ok (.own S.length) (S ++ [.lst (repl (n : Int) xs)]) := by
  have : 0 ≤ (n : Int) ∧ (n : Int) ≤ 1000 ∧ xs.length ≤ 1000 := by omega
  simp only [opRepO, lstOf, this, and_self, if_true]
end Sh
namespace Sh
open PySem L2 GB
/-! ### boards as functions of places -/
abbrev tx (l : List Nat) : Str := ⟨l.toArray⟩
def lineS (f : Nat → Nat) (n : Nat) : Str := tx ((List.range n).map f)
theorem lineS_len (f : Nat → Nat) (n : Nat) : (lineS f n).length = n := by simp [lineS, Str.length]
theorem lineS_congr {f g : Nat → Nat} {n : Nat} (h : ∀ c, c < n → f c = g c) : lineS f n = lineS g n := by
  unfold lineS
  rw [List.map_congr_left fun c hc => h c (List.mem_range.mp hc)]
def linesL (U : Nat → Nat → Nat) (a b : Nat) : List D := (List.range a).map fun l => .str (lineS (U l) b)
def brd (T : Nat → Nat → Nat) (m n : Nat) : D := .tup (linesL T m n)
theorem linesL_len (U : Nat → Nat → Nat) (a b : Nat) : (linesL U a b).length = a := by simp [linesL]
theorem linesL_congr {U V : Nat → Nat → Nat} {a b : Nat} (h : ∀ l c, l < a → c < b → U l c = V l c) : linesL U a b = linesL V a b := by
  unfold linesL
  exact List.map_congr_left fun l hl => by rw [lineS_congr fun c hc => h l c (List.mem_range.mp hl) hc]
theorem lineS_rev {S : Sto} {f : Nat → Nat} {n : Nat} (h : n ≤ 100000) : opRev (.str (lineS f n)) S = .ok (.str (lineS (fun c => f (n - 1 - c)) n)) S := by
  have e : strRev (lineS f n) = lineS (fun c => f (n - 1 - c)) n := by
    unfold strRev lineS
    congr 1
    simp only [← List.map_reverse]
    congr 1
    apply List.ext_getElem
    · simp
    · intro i h1 h2
      simp at h1
      simp
  have hl : (lineS f n).length ≤ 16777216 := by rw [lineS_len]; omega
  simp [opRev, hl, e]
theorem cutS_take {f : Nat → Nat} {n : Nat} {i : Int} (h0 : 0 ≤ i) (h1 : i ≤ n) : cutS (lineS f n) none (some i) = lineS f i.toNat := by
  have : HT.sIx (lineS f n).length (lineS f n).length (some i) = i.toNat := by
    rw [lineS_len]
    show (if i < 0 then (i + (n : Int)).toNat else min i.toNat n) = _
    rw [if_neg (by omega)]; omega
  unfold cutS
  rw [this]
  show tx ((((List.range n).map f).drop 0).take (i.toNat - 0)) = _
  unfold lineS
  rw [List.drop_zero, ← List.map_take, List.take_range, show min (i.toNat - 0) n = i.toNat by omega]
theorem cutS_drop {f : Nat → Nat} {n : Nat} {i : Int} (h0 : 0 ≤ i) (h1 : i ≤ n) : cutS (lineS f n) (some i) none = lineS (fun c => f (c + i.toNat)) (n - i.toNat) := by
  have : HT.sIx (lineS f n).length 0 (some i) = i.toNat := by
    rw [lineS_len]
    show (if i < 0 then (i + (n : Int)).toNat else min i.toNat n) = _
    rw [if_neg (by omega)]; omega
  have h2 : HT.sIx (lineS f n).length (lineS f n).length none = n := by rw [lineS_len]; rfl
  unfold cutS
  rw [this, h2]
  show tx ((((List.range n).map f).drop i.toNat).take (n - i.toNat)) = _
  unfold lineS
  congr 2
  apply List.ext_getElem
  · simp
  · intro k h3 h4
    simp
    congr 1; omega
theorem lineS_cat {f g : Nat → Nat} {a b : Nat} : lineS f a ++ lineS g b = lineS (fun c => if c < a then f c else g (c - a)) (a + b) := by
  have : lineS f a ++ lineS g b = tx ((List.range a).map f ++ (List.range b).map g) := SX.S_cat _ _
  rw [this]
  unfold lineS
  congr 2
  apply List.ext_getElem
  · simp
  · intro k h1 h2
    simp at h1 h2
    by_cases h : k < a
    · rw [List.getElem_append_left (by simpa using h)]; simp [h]
    · rw [List.getElem_append_right (by simp; omega)]; simp [h]
theorem rolled_eq {S : Sto} {f : Nat → Nat} {n : Nat} {k : Int} (hn : 0 < n) (h : n ≤ 100000) : g_rolled [.str (lineS f n), .int k] S = .ok (.str (lineS (fun c => f (((c : Int) - k) % n).toNat) n)) S := by
  have hl : (lineS f n).length ≤ 16777216 := by rw [lineS_len]; omega
  have a0 := Int.emod_nonneg k (show (n : Int) ≠ 0 by omega)
  have a1 := Int.emod_lt_of_pos k (show (0 : Int) < n by omega)
  have e1 := cutS_drop (f := f) (n := n) (i := (n : Int) - k % n) (by omega) (by omega)
  have e2 := cutS_take (f := f) (n := n) (i := (n : Int) - k % n) (by omega) (by omega)
  have e3 : cutS (lineS f n) (some ((n : Int) - k % n)) none ++ cutS (lineS f n) none (some ((n : Int) - k % n)) = lineS (fun c => f (((c : Int) - k) % n).toNat) n := by
    rw [e1, e2, lineS_cat, show n - ((n : Int) - k % n).toNat + ((n : Int) - k % n).toNat = n by omega]
    refine lineS_congr fun c hc => ?_
    have key : ∀ q : Int, 0 ≤ q → q < n → (∃ z : Int, (c : Int) - k = q + z * n) → (((c : Int) - k) % n) = q := fun q q0 q1 ⟨z, hz⟩ => by
      rw [hz, Int.add_mul_emod_self_right]; exact Int.emod_eq_of_lt q0 q1
    have hk := Int.emod_add_mul_ediv k n
    by_cases h1 : c < n - ((n : Int) - k % n).toNat
    · rw [if_pos h1]
      congr 1
      rw [key ((c : Int) + n - k % n) (by omega) (by omega) ⟨-1 - k / n, by
        have : (-1 - k / n) * (n : Int) = -(n : Int) - (n : Int) * (k / n) := by rw [Int.sub_mul, Int.neg_mul, Int.one_mul, Int.mul_comm (k / n)]
        omega⟩]
      omega
    · rw [if_neg h1]
      congr 1
      rw [key ((c : Int) - k % n) (by omega) (by omega) ⟨- (k / n), by
        have : (-(k / n)) * (n : Int) = - ((n : Int) * (k / n)) := by rw [Int.neg_mul, Int.mul_comm (k / n)]
        omega⟩]
      omega
  have l1 : (cutS (lineS f n) (some ((n : Int) - k % n)) none).length + (cutS (lineS f n) none (some ((n : Int) - k % n))).length ≤ 16777216 := by
    rw [e1, e2, lineS_len, lineS_len]; omega
  have hpos : (0 : Int) < n := by omega
  have l2 : ((lineS f n).length : Int) = n := by rw [lineS_len]
  simp [g_rolled, semFn_eq, sem_rolled, startE, hl, l2, opMod, hpos, semSl, OEx.run, opSl, opAdd, l1, e3]
  intro z; omega
end Sh
namespace Sh
open PySem L2 GB
theorem joinL_ones : ∀ l : List Nat, TL.joinL [] (l.map fun c => [c]) = l
  | [] => rfl
  | [c] => rfl
  | c :: d :: l => by
    show [c] ++ ([] ++ TL.joinL [] ((d :: l).map fun c => [c])) = _
    rw [joinL_ones (d :: l)]; rfl
theorem join_ones (g : Nat → Nat) (m : Nat) : Txt.join "" ((List.range m).map fun r => tx [g r]) = lineS g m := by
  have e0 : ("" : Str) = SX.S [] := by decide +kernel
  have e1 : ((List.range m).map fun r => tx [g r]) = (((List.range m).map g).map fun c => [c]).map SX.S := by
    rw [List.map_map, List.map_map]; rfl
  rw [e0, e1, SX.join_S, joinL_ones]
  rfl
theorem lineS_ix {f : Nat → Nat} {n c : Nat} {S : Sto} (h : c < n) (hn : n ≤ 100000) : opIx (.str (lineS f n)) (.int (c : Nat)) S = .ok (.str (tx [f c])) S := by
  have hl : (lineS f n).length ≤ 16777216 := by rw [lineS_len]; omega
  have e : atI (lineS f n).cps.toList ((c : Nat) : Int) = some (f c) := by
    simp [lineS, atI, ixN, h]
  simp only [opIx, kl, hl, if_true, e]
theorem col_join {U : Nat → Nat → Nat} {a b at_ : Nat} {S : Sto} (ha : a ≤ 100000) (hb : b ≤ 100000) (h : at_ < b) (x : D) (hx : x = .tup (linesL U a b) ∨ x = .lst (linesL U a b)) :
    semJoin (semC (.str "")) (semLc finD (semItems (semVar 0)) [2] (gNm 2) (semC (.bl true)) (sem2 opIx (semVar 2) (semVar 1))) [some x, some (.int (at_ : Nat)), none] S = .ok (.str (lineS (fun r => U r at_) a)) S := by
  have key := cLoop_map (i := 2) (ρ := [some x, some (.int (at_ : Nat)), none]) (S := S) (fe := sem2 opIx (semVar 2) (semVar 1)) (f := fun d => match opIx d (.int (at_ : Nat)) S with | .ok e _ => e | _ => .non) (ds := linesL U a b) (fun d hd => by
    obtain ⟨r, hr, rfl⟩ := List.mem_map.mp hd
    simp [lineS_ix h hb])
  have e1 : (linesL U a b).map (fun d => match opIx d (.int (at_ : Nat)) S with | .ok e _ => e | _ => .non) = ((List.range a).map fun r => tx [U r at_]).map .str := by
    rw [linesL, List.map_map, List.map_map]
    apply List.map_congr_left
    intro r _
    simp [lineS_ix h hb]
  rw [e1] at key
  have hl2 : (linesL U a b).length ≤ 16777216 := by rw [linesL_len]; omega
  have e2 : strsIn (.lst (((List.range a).map fun r => tx [U r at_]).map .str)) S = some ((List.range a).map fun r => tx [U r at_]) := by
    simp only [strsIn, seqOf, lstOf, Option.bind_some, strsOf_strs]
  have e3 : ((((List.range a).map fun r => tx [U r at_]).map (·.length)).sum + ((List.range a).map fun r => tx [U r at_]).length * ("" : Str).length) ≤ 16777216 := by
    rw [sum_ones (fun z hz => by
      obtain ⟨r, _, rfl⟩ := List.mem_map.mp hz
      rfl)]
    have : ("" : Str).length = 0 := by decide +kernel
    rw [this]
    simp; omega
  have e4 : semLc finD (semItems (semVar 0)) [2] (gNm 2) (semC (.bl true)) (sem2 opIx (semVar 2) (semVar 1)) [some x, some (.int (at_ : Nat)), none] S = .ok (.lst (((List.range a).map fun r => tx [U r at_]).map .str)) S := by
    have e0 : wipeE [some x, some (.int (at_ : Nat)), none] [2] = [some x, some (.int (at_ : Nat)), none] := rfl
    rw [semLc_eq, e0]
    rcases hx with rfl | rfl <;> simp only [semItems_eq, semVar_eq, List.getElem?_cons_zero, bind_ok, bItems_tup, bItems_lst, kl, hl2, if_true, key, finD_eq]
  unfold semJoin
  simp only [semC_eq, bind_ok, e4, e2, e3, if_true]
  rw [join_ones]
/-- the columns of what stands in rows -/
theorem cols_list {U : Nat → Nat → Nat} {a b : Nat} {S : Sto} (ha0 : 0 < a) (ha : a ≤ 100000) (hb : b ≤ 100000) (x : D) (hx : x = .tup (linesL U a b) ∨ x = .lst (linesL U a b)) :
    semLc finD (semArg bRange1 (semCons (semCall bLen (semCons (sem2 opIx (semVar 0) (semC (.int 0))) semNil)) semNil)) [1] (gNm 1) (semC (.bl true)) (semJoin (semC (.str "")) (semLc finD (semItems (semVar 0)) [2] (gNm 2) (semC (.bl true)) (sem2 opIx (semVar 2) (semVar 1)))) [some x, none, none] S = .ok (.lst (linesL (fun c r => U r c) b a)) S := by
  have key := cLoop_map (i := 1) (ρ := [some x, none, none]) (S := S) (fe := semJoin (semC (.str "")) (semLc finD (semItems (semVar 0)) [2] (gNm 2) (semC (.bl true)) (sem2 opIx (semVar 2) (semVar 1)))) (f := fun d => match d with | .int c => .str (lineS (fun r => U r c.toNat) a) | _ => .non) (ds := (List.range b).map fun c => .int (c : Nat)) (fun d hd => by
    obtain ⟨c, hc, rfl⟩ := List.mem_map.mp hd
    have := col_join (S := S) ha hb (List.mem_range.mp hc) x hx
    simpa using this)
  have e1 : ((List.range b).map fun c => D.int (c : Nat)).map (fun d => match d with | .int c => .str (lineS (fun r => U r c.toNat) a) | _ => .non) = linesL (fun c r => U r c) b a := by
    rw [List.map_map]; rfl
  rw [e1] at key
  have h0 : (linesL U a b)[0]? = some (.str (lineS (U 0) b)) := by
    simp [linesL, ha0]
  have i0 : opIx x (.int 0) S = .ok (.str (lineS (U 0) b)) S := by
    have : atI (linesL U a b) 0 = some (.str (lineS (U 0) b)) := atI_map (f := fun l => D.str (lineS (U l) b)) (ss := List.range a) (i := 0) (by omega) (by simp [ha0])
    rcases hx with rfl | rfl <;> simp [this]
  have hl : (lineS (U 0) b).length ≤ 16777216 := by rw [lineS_len]; omega
  have hit : semArg bRange1 (semCons (semCall bLen (semCons (sem2 opIx (semVar 0) (semC (.int 0))) semNil)) semNil) [some x, none, none] S = .ok ((List.range b).map fun c => .int (c : Nat)) S := by
    have e2 : bRange1 [.int ((lineS (U 0) b).length : Int)] S = .ok ((List.range b).map fun c => .int (c : Nat)) S := by
      rw [lineS_len, bRange1_ok (by omega)]; simp
    simp [i0, hl, e2]
  have hl2 : ((List.range b).map fun c => D.int (c : Nat)).length ≤ 16777216 := by simp; omega
  have e0 : wipeE [some x, none, none] [1] = [some x, none, none] := rfl
  rw [semLc_eq, hit]
  simp only [bind_ok, kl, hl2, if_true, e0, key, finD_eq]
theorem columns_of_eq {T : Nat → Nat → Nat} {m n : Nat} {S : Sto} (hm0 : 0 < m) (hm : m ≤ 100000) (hn : n ≤ 100000) : g_columns_of [brd T m n] S = .ok (.lst (linesL (fun c r => T r c) n m)) S := by
  have e : g_columns_of [brd T m n] S = finR (sRet (semLc finD (semArg bRange1 (semCons (semCall bLen (semCons (sem2 opIx (semVar 0) (semC (.int 0))) semNil)) semNil)) [1] (gNm 1) (semC (.bl true)) (semJoin (semC (.str "")) (semLc finD (semItems (semVar 0)) [2] (gNm 2) (semC (.bl true)) (sem2 opIx (semVar 2) (semVar 1))))) [some (brd T m n), none, none] S) := rfl
  rw [e, sRet_eq, cols_list (U := T) hm0 hm hn (brd T m n) (.inl rfl)]
  rfl
theorem from_columns_eq {U : Nat → Nat → Nat} {a b : Nat} {S : Sto} (ha0 : 0 < a) (ha : a ≤ 100000) (hb : b ≤ 100000) : g_from_columns [.lst (linesL U a b)] S = .ok (brd (fun r c => U c r) b a) S := by
  have e : g_from_columns [.lst (linesL U a b)] S = finR (sRet (semCall bTuple (semCons (semLc finD (semArg bRange1 (semCons (semCall bLen (semCons (sem2 opIx (semVar 0) (semC (.int 0))) semNil)) semNil)) [1] (gNm 1) (semC (.bl true)) (semJoin (semC (.str "")) (semLc finD (semItems (semVar 0)) [2] (gNm 2) (semC (.bl true)) (sem2 opIx (semVar 2) (semVar 1))))) semNil)) [some (.lst (linesL U a b)), none, none] S) := rfl
  rw [e, sRet_eq, semCall_eq, semCons_eq, cols_list (U := U) ha0 ha hb (.lst (linesL U a b)) (.inr rfl)]
  rfl
end Sh
namespace Sh
open PySem L2 GB
/-! ### the lines of a side behind a deed -/
def dU (a b : Nat) : Deed → (Nat → Nat → Nat) → Nat → Nat → Nat
  | .back _, U => fun l c => U (a - 1 - l) c
  | .move _ false i, U => fun l c => U (((l : Int) - i) % a).toNat c
  | .move _ true i, U => fun l c => U l (((c : Int) - i * l) % b).toNat
  | .turn _ k q, U => fun l c => if (l : Int) % k = q then U l (b - 1 - c) else U l c
theorem linesL_get {U : Nat → Nat → Nat} {a b i : Nat} (h : i < (linesL U a b).length) : (linesL U a b)[i] = .str (lineS (U i) b) := by
  simp [linesL]
theorem linesL_rev (U : Nat → Nat → Nat) (a b : Nat) : (linesL U a b).reverse = linesL (fun l c => U (a - 1 - l) c) a b := by
  apply List.ext_getElem
  · simp [linesL_len]
  · intro i h1 h2
    rw [List.getElem_reverse, linesL_get, linesL_get, linesL_len]
theorem linesL_roll {U : Nat → Nat → Nat} {a b : Nat} {k : Int} (ha : 0 < a) : (linesL U a b).drop ((a : Int) - k % a).toNat ++ (linesL U a b).take ((a : Int) - k % a).toNat = linesL (fun l c => U (((l : Int) - k) % a).toNat c) a b := by
  have a0 := Int.emod_nonneg k (show (a : Int) ≠ 0 by omega)
  have a1 := Int.emod_lt_of_pos k (show (0 : Int) < a by omega)
  have hk := Int.emod_add_mul_ediv k a
  have key : ∀ (c : Nat) (q : Int), 0 ≤ q → q < a → (∃ z : Int, (c : Int) - k = q + z * a) → (((c : Int) - k) % a) = q := fun c q q0 q1 ⟨z, hz⟩ => by
    rw [hz, Int.add_mul_emod_self_right]; exact Int.emod_eq_of_lt q0 q1
  apply List.ext_getElem
  · simp [linesL_len]; omega
  · intro i h1 h2
    rw [linesL_len] at h2
    rw [linesL_get (h := by rw [linesL_len]; exact h2)]
    by_cases h : i < a - ((a : Int) - k % a).toNat
    · rw [List.getElem_append_left (by simpa [linesL_len] using h), List.getElem_drop, linesL_get]
      rw [key i ((i : Int) + a - k % a) (by omega) (by omega) ⟨-1 - k / a, by
        have : (-1 - k / a) * (a : Int) = -(a : Int) - (a : Int) * (k / a) := by rw [Int.sub_mul, Int.neg_mul, Int.one_mul, Int.mul_comm (k / a)]
        omega⟩]
      rw [show ((i : Int) + a - k % a).toNat = ((a : Int) - k % a).toNat + i by omega]
    · rw [List.getElem_append_right (by simp [linesL_len]; omega), List.getElem_take, linesL_get]
      rw [key i ((i : Int) - k % a) (by omega) (by omega) ⟨- (k / a), by
        have : (-(k / a)) * (a : Int) = - ((a : Int) * (k / a)) := by rw [Int.neg_mul, Int.mul_comm (k / a)]
        omega⟩]
      simp only [List.length_drop, linesL_len]
      rw [show ((i : Int) - k % a).toNat = i - (a - ((a : Int) - k % a).toNat) by omega]
theorem enumL_lines (U : Nat → Nat → Nat) (b : Nat) : ∀ (l : List Nat) (n : Nat), l = List.range' n l.length → enumL n (l.map fun i => .str (lineS (U i) b)) = l.map fun i => .tup [.int (i : Nat), .str (lineS (U i) b)]
  | [], n, _ => rfl
  | x :: l, n, h => by
    rw [List.length_cons, List.range'_succ, List.cons.injEq] at h
    obtain ⟨rfl, h⟩ := h
    show .tup [.int (x : Nat), .str (lineS (U x) b)] :: enumL (x + 1) (l.map fun i => .str (lineS (U i) b)) = _
    rw [enumL_lines U b l (x + 1) h]; rfl
theorem enum_lines {U : Nat → Nat → Nat} {a b : Nat} {S : Sto} : bEnumL [.lst (linesL U a b)] S = .ok ((List.range a).map fun i => .tup [.int (i : Nat), .str (lineS (U i) b)]) S := by
  have : bEnumL [.lst (linesL U a b)] S = .ok (enumL 0 (linesL U a b)) S := rfl
  rw [this, linesL, enumL_lines U b (List.range a) 0 (by rw [List.length_range, List.range_eq_range'])]
theorem done_to_eq {U : Nat → Nat → Nat} {a b : Nat} {S : Sto} (x : Deed) (hx : x.Ok) (ha0 : 0 < a) (ha : a ≤ 100000) (hb0 : 0 < b) (hb : b ≤ 100000) : g_done_to [.lst (linesL U a b), x.d] S = .ok (.lst (linesL (dU a b x U) a b)) S := by
  obtain ⟨r1, r2, r3, r4, n1, n2, n3, n4, n5, n6, n7, n8, n9, n10, n11, n12, n13, n14⟩ := words
  have hl : (linesL U a b).length ≤ 16777216 := by rw [linesL_len]; omega
  have a1 : ∀ p q r : D, atI [p, q, r] 1 = some q := fun p q r => rfl
  have a2 : ∀ p q r : D, atI [p, q, r] 2 = some r := fun p q r => rfl
  have hel : ((List.range a).map fun i => D.tup [.int (i : Nat), .str (lineS (U i) b)]).length ≤ 16777216 := by simp; omega
  cases x with
  | back s => simp [g_done_to, semFn_eq, sem_done_to, startE, Deed.d, atI, ixN, opRev, lstOf, linesL_rev, dU]
  | move s sh i =>
    have hpos : (0 : Int) < a := by omega
    have m0 := Int.emod_nonneg i (show (a : Int) ≠ 0 by omega)
    have m1 := Int.emod_lt_of_pos i hpos
    obtain ⟨i0, i1, i2⟩ := hx
    have hb1 : -18446744073709551616 < i ∧ i < 18446744073709551616 := by omega
    cases sh with
    | false =>
      have c1 := cut_drop (xs := linesL U a b) (i := (a : Int) - i % a) (by omega) (by rw [linesL_len]; omega)
      have c2 := cut_take (xs := linesL U a b) (i := (a : Int) - i % a) (by omega) (by rw [linesL_len]; omega)
      have hadd : ∀ S, opAdd (.lst ((linesL U a b).drop ((a : Int) - i % a).toNat)) (.lst ((linesL U a b).take ((a : Int) - i % a).toNat)) S = .ok (.lst (linesL (fun l c => U (((l : Int) - i) % a).toNat c) a b)) S := fun S => by
        have : ((linesL U a b).drop ((a : Int) - i % a).toNat).length + ((linesL U a b).take ((a : Int) - i % a).toNat).length ≤ 16777216 := by simp [linesL_len]; omega
        simp only [opAdd, lstOf, kl, this, if_true, linesL_roll ha0]
      have l2 : ((linesL U a b).length : Int) = a := by rw [linesL_len]
      simp [g_done_to, semFn_eq, sem_done_to, startE, Deed.d, mv, a1, a2, n6, opMod, hpos, l2, semSl, OEx.run, opSl, lstOf, c1, c2, hadd, dU]
      intro z; omega
    | true =>
      have key := cLoop_gen (g := gTp [3, 4]) (ρ := [some (.lst (linesL U a b)), some (Deed.move s true i).d, some (.str "shift"), none, none]) (S := S) (fe := semCall (fun ds S => if ds.length = 2 then g_rolled ds S else .no) (semCons (semVar 4) (semCons (sem2 opMul (sem2 opIx (semVar 1) (semC (.int 2))) (semVar 3)) semNil)))
        (f := fun d => match d with | .tup [.int l, _] => .str (lineS (fun c => U l.toNat (((c : Int) - i * l) % b).toNat) b) | _ => .non) (ds := (List.range a).map fun i => .tup [.int (i : Nat), .str (lineS (U i) b)]) (fun d hd => by
          obtain ⟨l, hl, rfl⟩ := List.mem_map.mp hd
          have := rolled_eq (S := S) (f := U l) (n := b) (k := i * l) hb0 hb
          exact ⟨_, rfl, by simp [Deed.d, a2, hb1, this]⟩)
      rw [List.map_map] at key
      have key : cLoop (gTp [3, 4]) (semC (.bl true)) (semCall (fun ds S => if ds.length = 2 then g_rolled ds S else .no) (semCons (semVar 4) (semCons (sem2 opMul (sem2 opIx (semVar 1) (semC (.int 2))) (semVar 3)) semNil))) [some (.lst (linesL U a b)), some (.tup [.str (sd s), .str "shift", .int i]), some (.str "shift"), none, none] ((List.range a).map fun i => .tup [.int (i : Nat), .str (lineS (U i) b)]) S = .ok (linesL (dU a b (.move s true i) U) a b) S := key
      have ha2 : a ≤ 16777216 := by omega
      simp [g_done_to, semFn_eq, sem_done_to, startE, Deed.d, mv, a1, n7, n12, enum_lines, ha2, wipeE, key]
  | turn s k q =>
    obtain ⟨k1, k2, k3, k4⟩ := hx
    have hk : 0 < k := by omega
    have b1 : ∀ p q r t : D, atI [p, q, r, t] 1 = some q := fun p q r t => rfl
    have b2 : ∀ p q r t : D, atI [p, q, r, t] 2 = some r := fun p q r t => rfl
    have b3 : ∀ p q r t : D, atI [p, q, r, t] 3 = some t := fun p q r t => rfl
    have key := cLoop_gen (g := gTp [3, 4]) (ρ := [some (.lst (linesL U a b)), some (Deed.turn s k q).d, some (.str "turn"), none, none]) (S := S) (fe := semIte (sem2 opEq (sem2 opMod (semVar 3) (sem2 opIx (semVar 1) (semC (.int 2)))) (sem2 opIx (semVar 1) (semC (.int 3)))) (sem1 opRev (semVar 4)) (semVar 4))
      (f := fun d => match d with | .tup [.int l, _] => .str (lineS (fun c => if l % k = q then U l.toNat (b - 1 - c) else U l.toNat c) b) | _ => .non) (ds := (List.range a).map fun i => .tup [.int (i : Nat), .str (lineS (U i) b)]) (fun d hd => by
        obtain ⟨l, hl, rfl⟩ := List.mem_map.mp hd
        have := lineS_rev (S := S) (f := U l) (n := b) hb
        by_cases e : (l : Int) % k = q
        · exact ⟨_, rfl, by simp [Deed.d, b2, b3, opMod, hk, e, this]⟩
        · exact ⟨_, rfl, by simp [Deed.d, b2, b3, opMod, hk, e]⟩)
    rw [List.map_map] at key
    have key : cLoop (gTp [3, 4]) (semC (.bl true)) (semIte (sem2 opEq (sem2 opMod (semVar 3) (sem2 opIx (semVar 1) (semC (.int 2)))) (sem2 opIx (semVar 1) (semC (.int 3)))) (sem1 opRev (semVar 4)) (semVar 4)) [some (.lst (linesL U a b)), some (.tup [.str (sd s), .str "turn", .int k, .int q]), some (.str "turn"), none, none] ((List.range a).map fun i => .tup [.int (i : Nat), .str (lineS (U i) b)]) S = .ok (linesL (dU a b (.turn s k q) U) a b) S := key
    have ha2 : a ≤ 16777216 := by omega
    simp [g_done_to, semFn_eq, sem_done_to, startE, Deed.d, b1, n3, n4, n5, enum_lines, ha2, wipeE, key]
end Sh
namespace Sh
open PySem L2 GB
/-! ### a board behind a deed; the board of a plan -/
def bT (m n : Nat) (x : Deed) (T : Nat → Nat → Nat) : Nat → Nat → Nat := fun r c => T (goal m n x.un (r, c)).1.toNat (goal m n x.un (r, c)).2.toNat
theorem brd_congr {T U : Nat → Nat → Nat} {m n : Nat} (h : ∀ r c, r < m → c < n → T r c = U r c) : brd T m n = brd U m n := by
  unfold brd; rw [linesL_congr h]
theorem ing_nat {m n r c : Nat} (hr : r < m) (hc : c < n) : InG m n ((r : Int), (c : Int)) := by
  unfold InG; exact ⟨by simp, by simp; omega, by simp, by simp; omega⟩
def Deed.side : Deed → Bool
  | .back s => s | .move s _ _ => s | .turn s _ _ => s
theorem dU_rows {m n r c : Nat} {x : Deed} {T : Nat → Nat → Nat} (h : x.side = true) (hr : r < m) (hc : c < n) : dU m n x T r c = bT m n x T r c := by
  cases x with
  | back s =>
    simp only [Deed.side] at h; subst h
    simp only [dU, bT, Deed.un, goal]
    congr 1; omega
  | move s b i =>
    simp only [Deed.side] at h; subst h
    cases b
    · simp only [dU, bT, Deed.un, goal, Int.sub_eq_add_neg]; rfl
    · simp only [dU, bT, Deed.un, goal, Int.sub_eq_add_neg, Int.neg_mul]; rfl
  | turn s k q =>
    simp only [Deed.side] at h; subst h
    simp only [dU, bT, Deed.un, goal]
    by_cases e : (r : Int) % k = q
    · simp only [e, if_true]
      congr 1; omega
    · simp only [e, if_false]; rfl
theorem dU_cols {m n r c : Nat} {x : Deed} {T : Nat → Nat → Nat} (h : x.side = false) (hr : r < m) (hc : c < n) : dU n m x (fun c r => T r c) c r = bT m n x T r c := by
  cases x with
  | back s =>
    simp only [Deed.side] at h; subst h
    simp only [dU, bT, Deed.un, goal]
    congr 1; omega
  | move s b i =>
    simp only [Deed.side] at h; subst h
    cases b
    · simp only [dU, bT, Deed.un, goal, Int.sub_eq_add_neg]; rfl
    · simp only [dU, bT, Deed.un, goal, Int.sub_eq_add_neg, Int.neg_mul]; rfl
  | turn s k q =>
    simp only [Deed.side] at h; subst h
    simp only [dU, bT, Deed.un, goal]
    by_cases e : (c : Int) % k = q
    · simp only [e, if_true]
      congr 1; omega
    · simp only [e, if_false]; rfl
theorem deed_ix0 (x : Deed) (S : Sto) : opIx x.d (.int 0) S = .ok (.str (sd x.side)) S := by
  cases x <;> simp [Deed.d, Deed.side, atI, ixN]
theorem behind_eq {T : Nat → Nat → Nat} {m n : Nat} {S : Sto} (x : Deed) (hx : x.Ok) (hm0 : 0 < m) (hm : m ≤ 100000) (hn0 : 0 < n) (hn : n ≤ 100000) : g_behind [brd T m n, x.d] S = .ok (brd (bT m n x T) m n) S := by
  have k7 : ("slices" : Str) ≠ "rows" := by decide +kernel
  have hl : (linesL T m n).length ≤ 16777216 := by rw [linesL_len]; omega
  cases hs : x.side with
  | true =>
    have h1 := done_to_eq (S := S) (U := T) x hx hm0 hm hn0 hn
    have h2 : bList [brd T m n] S = .ok (.lst (linesL T m n)) S := by simp [brd, bList, seqOf]
    have h3 : linesL (dU m n x T) m n = linesL (bT m n x T) m n := linesL_congr fun r c hr hc => dU_rows hs hr hc
    rw [h3] at h1
    have h4 : bTuple [.lst (linesL (bT m n x T) m n)] S = .ok (brd (bT m n x T) m n) S := rfl
    simp [g_behind, semFn_eq, sem_behind, startE, deed_ix0, hs, sd, h1, h2, h4]
  | false =>
    have h1 := columns_of_eq (S := S) (T := T) hm0 hm hn
    have h2 := done_to_eq (S := S) (U := fun c r => T r c) x hx hn0 hn hm0 hm
    have h3 := from_columns_eq (S := S) (U := dU n m x fun c r => T r c) hn0 hn hm
    have h4 : brd (fun r c => dU n m x (fun c r => T r c) c r) m n = brd (bT m n x T) m n := brd_congr fun r c hr hc => dU_cols hs hr hc
    rw [h4] at h3
    simp [g_behind, semFn_eq, sem_behind, startE, deed_ix0, hs, sd, k7, h1, h2, h3]
/-- the code of a wood -/
def wc : D → Nat
  | .str z => z.cps.getD 0 0
  | _ => 0
theorem wood_tx {d : D} (h : isWood d = true) : d = .str (tx [wc d]) ∧ (wc d) < 0x110000 := by
  cases d with
  | str z =>
    have hz : z ∈ woods4 := by simpa [isWood] using h
    have key : ∀ z ∈ woods4, z = tx [z.cps.getD 0 0] ∧ z.cps.getD 0 0 < 0x110000 := by decide +kernel
    exact ⟨congrArg D.str (key z hz).1, (key z hz).2⟩
  | _ => simp [isWood] at h
def wcs (ws : List D) (r : Nat) : Nat := wc (ws.getD r .non)
def stT (ws : List D) : Nat → Nat → Nat := fun r _ => wcs ws r
theorem strMul_one (k n : Nat) : strMul (tx [k]) n = lineS (fun _ => k) n := by
  unfold strMul lineS
  have e : ((List.replicate ((n : Nat) : Int).toNat (tx [k]).cps.toList).flatten) = (List.range n).map fun _ => k := by
    rw [Int.toNat_natCast, List.map_const', List.length_range]
    induction n with
    | zero => rfl
    | succ n ih => rw [List.replicate_succ, List.replicate_succ, List.flatten_cons, ih]; rfl
  rw [e]
theorem strips_eq {ws : List D} {n : Nat} {S : Sto} (hw : ∀ x ∈ ws, isWood x = true) (hl : ws.length ≤ 100000) (hn : n ≤ 100000) : g_strips [.tup ws, .int n] S = .ok (brd (stT ws) ws.length n) S := by
  have key := cLoop_map (i := 2) (ρ := [some (.tup ws), some (.int n), none]) (S := S) (fe := sem2 opMul (semVar 2) (semVar 1)) (f := fun d => .str (lineS (fun _ => wc d) n)) (ds := ws) (fun d hd => by
    have h1 := (wood_tx (hw d hd)).1
    rw [h1]
    have h2 : (tx [wc d]).length ≤ 100 := by simp [Str.length]
    have h3 : wc (.str (tx [wc d])) = wc d := rfl
    simp only [sem2_eq, semVar_eq, List.set_cons_succ, List.set_cons_zero, List.getElem?_cons_succ, List.getElem?_cons_zero, bind_ok, opMul, h2, h3]
    rw [if_pos ⟨by omega, by omega, trivial⟩, strMul_one])
  have e1 : ws.map (fun d => D.str (lineS (fun _ => wc d) n)) = linesL (stT ws) ws.length n := by
    apply List.ext_getElem
    · simp [linesL_len]
    · intro i h1 h2
      rw [linesL_get, List.getElem_map]
      rw [List.length_map] at h1
      have e2 : stT ws i = fun _ => wc ws[i] := by funext c; simp [stT, wcs, h1]
      rw [e2]
  rw [e1] at key
  have hl2 : ws.length ≤ 16777216 := by omega
  have h4 : bTuple [.lst (linesL (stT ws) ws.length n)] S = .ok (brd (stT ws) ws.length n) S := rfl
  simp only [g_strips, semFn_eq, sem_strips, startE, List.map_cons, List.map_nil, List.length_cons, List.length_nil, List.replicate, List.cons_append, List.nil_append, sRet_eq, semCall_eq, semCons_eq, semNil_eq, semLc_eq, semItems_eq, semVar_eq, List.getElem?_cons_zero, bind_ok, bItems_tup, kl, hl2, if_true]
  have e0 : wipeE [some (.tup ws), some (.int n), none] [2] = [some (.tup ws), some (.int n), none] := rfl
  rw [e0, key]
  simp [h4]
/-- which strip's code lies at a place of a plan's board -/
def bdT (ws : List D) (xs : List Deed) (n : Nat) : Nat → Nat → Nat := fun r c => wcs ws (lead ws.length n xs ((r : Int), (c : Int))).1.toNat
theorem lead_snoc {m n : Int} {xs : List Deed} {x : Deed} {y : Cell} : lead m n (xs ++ [x]) y = lead m n xs (goal m n x.un y) := by
  simp [lead]
theorem bT_bdT {ws : List D} {xs : List Deed} {x : Deed} {n r c : Nat} (hr : r < ws.length) (hc : c < n) : bT ws.length n x (bdT ws xs n) r c = bdT ws (xs ++ [x]) n r c := by
  have h := goal_in (m := ws.length) (n := n) x.un (ing_nat hr hc)
  obtain ⟨h1, h2, h3, h4⟩ := h
  unfold bT bdT
  rw [lead_snoc]
  congr 4
  rw [Int.toNat_of_nonneg h1, Int.toNat_of_nonneg h3]
/-- the board of a plan -/
def bd (ws : List D) (xs : List Deed) (n : Nat) : D := brd (bdT ws xs n) ws.length n
theorem board_of_loop {ws : List D} {n : Nat} {S : Sto} {P : D} (hm0 : 0 < ws.length) (hm : ws.length ≤ 100000) (hn0 : 0 < n) (hn : n ≤ 100000) : ∀ (ys xs : List Deed) (z : Option D), (∀ x ∈ ys, x.Ok) →
    ∃ z', sLoop (gNm 3) (sAsg (semCall (fun ds S => if ds.length = 2 then g_behind ds S else .no) (semCons (semVar 2) (semCons (semVar 3) semNil))) (gNm 2)) (ys.map Deed.d) [some P, some (.int n), some (bd ws xs n), z] S =
      .nx [some P, some (.int n), some (bd ws (xs ++ ys) n), z'] S
  | [], xs, z, _ => ⟨z, by simp [sLoop]⟩
  | y :: ys, xs, z, hx => by
    have h1 := behind_eq (S := S) (T := bdT ws xs n) y (hx y (List.mem_cons_self ..)) hm0 hm hn0 hn
    have h2 : brd (bT ws.length n y (bdT ws xs n)) ws.length n = bd ws (xs ++ [y]) n := brd_congr fun r c hr hc => bT_bdT hr hc
    rw [h2] at h1
    have h1 : g_behind [bd ws xs n, y.d] S = .ok (bd ws (xs ++ [y]) n) S := h1
    obtain ⟨z', h3⟩ := board_of_loop (S := S) (P := P) hm0 hm hn0 hn ys (xs ++ [y]) (some y.d) fun x hx' => hx x (List.mem_cons_of_mem _ hx')
    rw [List.append_assoc, List.singleton_append] at h3
    refine ⟨z', ?_⟩
    rw [List.map_cons]
    exact (sLoop_step (ρ1 := [some P, some (.int n), some (bd ws xs n), some y.d]) rfl (by simp [h1])).trans h3
theorem board_of_eq {ws : List D} {xs : List Deed} {n : Nat} {S : Sto} (hw : ∀ x ∈ ws, isWood x = true) (hm0 : 0 < ws.length) (hm : ws.length ≤ 100000) (hn0 : 0 < n) (hn : n ≤ 100000) (hx : ∀ x ∈ xs, x.Ok) : g_board_of [planD ws xs, .int n] S = .ok (bd ws xs n) S := by
  have h1 := strips_eq (S := S) (n := n) hw hm hn
  have h0 : brd (stT ws) ws.length n = bd ws [] n := by
    refine brd_congr fun r c hr hc => ?_
    simp [stT, bdT, lead]
  rw [h0] at h1
  obtain ⟨z', h2⟩ := board_of_loop (S := S) (P := planD ws xs) hm0 hm hn0 hn xs [] none hx
  rw [List.nil_append] at h2
  have i0 : ∀ S, opIx (planD ws xs) (.int 0) S = .ok (.tup ws) S := fun S => by simp [planD, atI, ixN]
  have i1 : ∀ S, opIx (planD ws xs) (.int 1) S = .ok (.tup (xs.map Deed.d)) S := fun S => by simp [planD, atI, ixN]
  have hfor := (sFor_ok (fi := semItems (sem2 opIx (semVar 0) (semC (.int 1)))) (g := gNm 3) (fb := sAsg (semCall (fun ds S => if ds.length = 2 then g_behind ds S else .no) (semCons (semVar 2) (semCons (semVar 3) semNil))) (gNm 2)) (ds := xs.map Deed.d) (ρ := [some (planD ws xs), some (.int n), some (bd ws [] n), none]) (S := S) (S1 := S) (by simp [i1])).trans h2
  simp only [g_board_of, semFn_eq, sem_board_of, startE, sSeq_eq, sAsg_eq, semCons_eq, semCall_eq, sem2_eq, semVar_eq, semC_eq, semNil_eq, List.map_cons, List.map_nil, List.length_cons, List.length_nil, List.replicate, List.cons_append, List.nil_append, List.getElem?_cons_zero, List.getElem?_cons_succ, bind_ok, i0, if_true, h1, toS_ok, gNm_eq, List.set_cons_succ, List.set_cons_zero, optS_some, seqS_nx, hfor, sRet_eq, finR_rt]
end Sh
namespace Sh
open PySem L2 GB
/-! ### the law's board is the program's -/
theorem look_moved {m n : Int} {L : List (Cell × D)} {x : Deed} {y : Cell} (h : ∀ z ∈ L, InG m n z.1) (hy : InG m n y) : look (moved (goal m n x) L) y = look L (goal m n x.un y) := by
  induction L with
  | nil => rfl
  | cons a L ih =>
    have ha := h a (List.mem_cons_self ..)
    have ih := ih fun z hz => h z (List.mem_cons_of_mem _ hz)
    have e : (goal m n x a.1 = y) ↔ (a.1 = goal m n x.un y) := by
      constructor
      · intro e; rw [← e, goal_back x ha]
      · intro e
        have := goal_back x.un hy
        rw [un_un] at this
        rw [e, this]
    unfold look moved at ih ⊢
    rw [List.map_cons, List.find?_cons, List.find?_cons]
    by_cases q : a.1 = goal m n x.un y
    · have q2 := e.mpr q
      have d1 : decide (a.1 = goal m n x.un y) = true := decide_eq_true q
      have d2 : decide (goal m n x a.1 = y) = true := decide_eq_true q2
      rw [d1, d2]; rfl
    · have q2 : ¬ goal m n x a.1 = y := fun z => q (e.mp z)
      simp only [q, q2, decide_false]
      exact ih
theorem look_all {m n : Int} : ∀ {xs : List Deed} {L : List (Cell × D)} {y : Cell}, Brd m n L → InG m n y → look (movedAll m n xs L) y = look L (lead m n xs y)
  | [], _, _, _, _ => rfl
  | x :: xs, L, y, h, hy => by
    rw [movedAll, look_all (h.moved x) hy, look_moved h.in_ (lead_in xs hy)]
    rfl
theorem look_strip {ws : List D} {n : Nat} {y : Cell} (hy : InG ws.length n y) : look (stripL 0 ws n) y = some (ws.getD y.1.toNat .non) := by
  obtain ⟨r, c⟩ := y
  obtain ⟨h1, h2, h3, h4⟩ := hy
  have h1 : 0 ≤ r := h1
  have h2 : r < ws.length := h2
  have h3 : 0 ≤ c := h3
  have h4 : c < n := h4
  have hr : r.toNat < ws.length := by omega
  have hw' : ws[r.toNat]? = some (ws.getD r.toNat .non) := by simp [hr]
  have hm := stripL_mem (r := 0) (n := n) (i := r.toNat) (c := c.toNat) hw' (by omega)
  have := look_mem (stripL_brd ws n).nd hm
  rw [Nat.zero_add] at this
  have e1 : ((r.toNat : Nat) : Int) = r := Int.toNat_of_nonneg h1
  have e2 : ((c.toNat : Nat) : Int) = c := Int.toNat_of_nonneg h3
  rw [e1, e2] at this
  exact this
theorem wood_at {ws : List D} {i : Nat} (hw : ∀ x ∈ ws, isWood x = true) (h : i < ws.length) : ws.getD i .non = .str (tx [wcs ws i]) := by
  have : ws.getD i .non ∈ ws := by simp [h]
  exact (wood_tx (hw _ this)).1
theorem txt_all {ws : List D} {xs : List Deed} {n r c : Nat} (hw : ∀ x ∈ ws, isWood x = true) (hr : r < ws.length) (hc : c < n) : txt (movedAll ws.length n xs (stripL 0 ws n)) ((r : Int), (c : Int)) = tx [bdT ws xs n r c] := by
  have hl := lead_in xs (ing_nat hr hc)
  have hl' := hl
  obtain ⟨h1, h2, _, _⟩ := hl'
  unfold txt
  rw [look_all (stripL_brd ws n) (ing_nat hr hc), look_strip hl, wood_at hw (by omega)]
  rfl
theorem rowsD_bd {ws : List D} {xs : List Deed} {n : Nat} (hw : ∀ x ∈ ws, isWood x = true) : rowsD (movedAll ws.length n xs (stripL 0 ws n)) ws.length n = bd ws xs n := by
  unfold rowsD bd brd linesL
  congr 1
  refine List.map_congr_left fun r hr => ?_
  congr 1
  unfold rowT
  rw [← join_ones]
  congr 1
  exact List.map_congr_left fun c hc => txt_all hw (List.mem_range.mp hr) (List.mem_range.mp hc)
theorem full_all {ws : List D} {xs : List Deed} {n : Nat} (hw : ∀ x ∈ ws, isWood x = true) : Full (movedAll ws.length n xs (stripL 0 ws n)) ws.length n := by
  intro r c hr hc
  have hl := lead_in xs (ing_nat hr hc)
  rw [look_all (stripL_brd ws n) (ing_nat hr hc)]
  have hl' := hl
  obtain ⟨h1, h2, h3, h4⟩ := hl'
  have := full_strips (n := n) hw (lead ws.length n xs ((r : Int), (c : Int))).1.toNat (lead ws.length n xs ((r : Int), (c : Int))).2.toNat (by omega) (by omega)
  rw [Int.toNat_of_nonneg h1, Int.toNat_of_nonneg h3] at this
  exact this
/-- the law's own board -/
theorem law_board_bd {ws : List D} {xs : List Deed} {n : Nat} {S : Sto} (hw : ∀ x ∈ ws, isWood x = true) (hm0 : 0 < ws.length) (hm : ws.length ≤ 100) (hn0 : 0 < n) (hn : n ≤ 10000) (hx : ∀ x ∈ xs, x.Ok) : ∃ G, g__law_board [planD ws xs, .int n] S = .ok (bd ws xs n) (S ++ G) := by
  obtain ⟨G, h⟩ := law_board_eq (S := S) hm0 hm hn0 hn hx (full_all hw)
  rw [rowsD_bd hw] at h
  exact ⟨G, h⟩
theorem bd_val {ws : List D} {xs : List Deed} {n w : Nat} (hw : ∀ x ∈ ws, isWood x = true) (hm : ws.length ≤ w) (hn : n ≤ w) : Val w 2 (bd ws xs n) := by
  rw [← rowsD_bd hw]
  exact rows_val (full_all hw) hm hn
end Sh
namespace Sh
open PySem L2 GB
/-! ### equality of data without truths -/
mutual
def pl : D → Bool
  | .non => true | .int _ => true | .str _ => true
  | .tup xs => pls xs | .lst xs => pls xs
  | .bl _ => false | .own _ => false | .ty _ => false | .gl _ => false
def pls : List D → Bool
  | [] => true
  | d :: ds => pl d && pls ds
end
theorem pls_all : ∀ xs : List D, pls xs = xs.all pl
  | [] => rfl
  | d :: ds => by rw [pls, pls_all ds]; rfl
mutual
theorem eqv_pl : ∀ (d e : D) (a b : PyData), pl d = true → pl e = true → toP d = some a → toP e = some b → (PyData.eqv a b = true ↔ d = e)
  | .non, e, a, b, _, he, ha, hb => by
    cases ha
    cases e <;> first | (cases hb; simp [PyData.eqv]; done) | (cases hb; rw [PyData.eqv, D.int.injEq]; exact beq_iff_eq) | (simp [pl] at he; done) | skip
    all_goals
      rw [toP] at hb
      cases q : toPs ‹List D› with
      | none => rw [q] at hb; cases hb
      | some qs => rw [q] at hb; cases hb; simp [PyData.eqv]
  | .int i, e, a, b, _, he, ha, hb => by
    cases ha
    cases e <;> first | (cases hb; simp [PyData.eqv]; done) | (cases hb; rw [PyData.eqv, D.int.injEq]; exact beq_iff_eq) | (simp [pl] at he; done) | skip
    all_goals
      rw [toP] at hb
      cases q : toPs ‹List D› with
      | none => rw [q] at hb; cases hb
      | some qs => rw [q] at hb; cases hb; simp [PyData.eqv]
  | .str i, e, a, b, _, he, ha, hb => by
    cases ha
    cases e <;> first | (cases hb; simp [PyData.eqv]; done) | (cases hb; rw [PyData.eqv, D.str.injEq]; exact beq_iff_eq) | (simp [pl] at he; done) | skip
    all_goals
      rw [toP] at hb
      cases q : toPs ‹List D› with
      | none => rw [q] at hb; cases hb
      | some qs => rw [q] at hb; cases hb; simp [PyData.eqv]
  | .tup xs, e, a, b, hd, he, ha, hb => by
    rw [toP] at ha
    cases q : toPs xs with
    | none => rw [q] at ha; cases ha
    | some qs =>
      rw [q] at ha; cases ha
      cases e with
      | tup ys =>
        rw [toP] at hb
        cases q2 : toPs ys with
        | none => rw [q2] at hb; cases hb
        | some qs2 =>
          rw [q2] at hb; cases hb
          rw [PyData.eqv, D.tup.injEq]
          exact eqvs_pl xs ys qs qs2 hd he q q2
      | lst ys =>
        rw [toP] at hb
        cases q2 : toPs ys with
        | none => rw [q2] at hb; cases hb
        | some qs2 => rw [q2] at hb; cases hb; simp [PyData.eqv]
      | _ => first | (cases hb; simp [PyData.eqv]) | (simp [pl] at he)
  | .lst xs, e, a, b, hd, he, ha, hb => by
    rw [toP] at ha
    cases q : toPs xs with
    | none => rw [q] at ha; cases ha
    | some qs =>
      rw [q] at ha; cases ha
      cases e with
      | lst ys =>
        rw [toP] at hb
        cases q2 : toPs ys with
        | none => rw [q2] at hb; cases hb
        | some qs2 =>
          rw [q2] at hb; cases hb
          rw [PyData.eqv, D.lst.injEq]
          exact eqvs_pl xs ys qs qs2 hd he q q2
      | tup ys =>
        rw [toP] at hb
        cases q2 : toPs ys with
        | none => rw [q2] at hb; cases hb
        | some qs2 => rw [q2] at hb; cases hb; simp [PyData.eqv]
      | _ => first | (cases hb; simp [PyData.eqv]) | (simp [pl] at he)
  | .bl _, _, _, _, hd, _, _, _ => by simp [pl] at hd
  | .own _, _, _, _, hd, _, _, _ => by simp [pl] at hd
  | .ty _, _, _, _, hd, _, _, _ => by simp [pl] at hd
  | .gl _, _, _, _, hd, _, _, _ => by simp [pl] at hd
theorem eqvs_pl : ∀ (ds es : List D) (as bs : List PyData), pls ds = true → pls es = true → toPs ds = some as → toPs es = some bs → (PyData.eqvAll as bs = true ↔ ds = es)
  | [], [], _, _, _, _, ha, hb => by cases ha; cases hb; simp [PyData.eqvAll]
  | [], e :: es, _, bs, _, _, ha, hb => by
    cases ha
    rw [toPs] at hb
    split at hb
    · cases hb; simp [PyData.eqvAll]
    · cases hb
  | d :: ds, [], as, _, _, _, ha, hb => by
    cases hb
    rw [toPs] at ha
    split at ha
    · cases ha; simp [PyData.eqvAll]
    · cases ha
  | d :: ds, e :: es, as, bs, hd, he, ha, hb => by
    rw [pls, Bool.and_eq_true] at hd he
    rw [toPs] at ha hb
    split at ha
    · rename_i x xs h1 h2
      cases ha
      split at hb
      · rename_i y ys h3 h4
        cases hb
        rw [PyData.eqvAll, Bool.and_eq_true, List.cons.injEq, eqv_pl d e x y hd.1 he.1 h1 h3, eqvs_pl ds es xs ys hd.2 he.2 h2 h4]
      · cases hb
    · cases ha
end
/-- what a place of the store stands for -/
def der (S : Sto) : D → D
  | .own k => match lstOf S (.own k) with
    | some xs => .lst xs
    | none => .own k
  | d => d
theorem toPS_der (S : Sto) (d : D) : toPS S d = toPS S (der S d) := by
  cases d with
  | own k =>
    cases h : lstOf S (.own k) with
    | none => simp only [der, h]
    | some xs =>
      have e : der S (.own k) = .lst xs := by simp only [der, h]
      rw [e]
      show (lstOf S (.own k)).bind _ = _
      rw [h]; rfl
  | _ => rfl
/-- == of trees, of lists in the store -/
theorem eq_pl {w v n m : Nat} {S : Sto} {d e : D} (hd : Val w n (der S d)) (he : Val v m (der S e)) (hn : n ≤ 60) (hm : m ≤ 60) (pd : pl (der S d) = true) (pe : pl (der S e) = true) :
    ∃ b : Bool, opEq d e S = .ok (.bl b) S ∧ opNe d e S = .ok (.bl !b) S ∧ (b = true ↔ der S d = der S e) := by
  obtain ⟨a, a1, a2, a3⟩ := val_toP hd
  obtain ⟨b, b1, b2, b3⟩ := val_toP he
  have key := eqv_pl (der S d) (der S e) a b pd pe a1 b1
  have tS : ∀ {x : D} {q : PyData}, toP (der S x) = some q → toPS S x = some q := fun {x q} h => by
    rw [toPS_der]
    cases hx : der S x with
    | own k => rw [hx] at h; cases h
    | _ => rw [hx] at h; exact h
  have s1 : SeqAt.shaped a = true := by simp [SeqAt.shaped, a2]; omega
  have s2 : SeqAt.shaped b = true := by simp [SeqAt.shaped, b2]; omega
  have hsc : ∀ z, scEq d e = some z → z = PyData.eqv a b := fun z hz => by
    cases d <;> cases e <;> first | (cases hz; done) | (simp [der] at a1 b1; cases a1; cases b1; simp [scEq] at hz; subst hz; first | rfl | (simp [PyData.eqv]; done) | (rw [Bool.eq_iff_iff]; simp [PyData.eqv]))
  have e4 : eqD S d e = some (PyData.eqv a b) := by
    unfold eqD
    cases hz : scEq d e with
    | some z => rw [hsc z hz]
    | none =>
      rw [tS a1, tS b1]
      simp only [s1, s2, Bool.and_self, if_true]
  exact ⟨PyData.eqv a b, by simp [opEq, e4], by simp [opNe, e4], key⟩
theorem tx_inj {l k : List Nat} : tx l = tx k ↔ l = k := by
  constructor
  · intro h
    have := congrArg (fun z : Str => z.cps.toList) h
    simpa [tx] using this
  · rintro rfl; rfl
theorem lineS_inj {f g : Nat → Nat} {n : Nat} : lineS f n = lineS g n ↔ ∀ c, c < n → f c = g c := by
  constructor
  · intro h c hc
    have h1 := tx_inj.mp h
    have := congrArg (fun l => l[c]?) h1
    simpa [hc] using this
  · exact lineS_congr
theorem brd_inj {T U : Nat → Nat → Nat} {m n : Nat} : brd T m n = brd U m n ↔ ∀ r c, r < m → c < n → T r c = U r c := by
  constructor
  · intro h r c hr hc
    unfold brd linesL at h
    have h1 := D.tup.inj h
    have h2 := congrArg (fun l => l[r]?) h1
    have h3 : D.str (lineS (T r) n) = D.str (lineS (U r) n) := by simpa [hr] using h2
    exact lineS_inj.mp (D.str.inj h3) c hc
  · exact brd_congr
theorem brd_pl (T : Nat → Nat → Nat) (m n : Nat) : pl (brd T m n) = true := by
  unfold brd
  rw [pl, pls_all, List.all_eq_true]
  intro d hd
  obtain ⟨r, _, rfl⟩ := List.mem_map.mp hd
  rfl
end Sh
namespace Sh
open PySem L2 GB
/-! ### while loops; periods, reaches -/
theorem sWhile_stop {c : Sem} {fb : SemS} {ρ : GB.Env} {S S1 : Sto} (h : c ρ S = .ok (.bl false) S1) : sWhile c fb ρ S = .nx ρ S1 :=
  sWhile_eq (n := 1) (by unfold sWhileN; rw [h]) (by simp)
theorem sWhile_go {c : Sem} {fb : SemS} {ρ ρ2 : GB.Env} {S S1 S2 : Sto} {r : SR} (h : c ρ S = .ok (.bl true) S1) (h2 : fb ρ S1 = .nx ρ2 S2) (h3 : sWhile c fb ρ2 S2 = r) (hr : r ≠ .no) : sWhile c fb ρ S = r := by
  have : ∃ n, sWhileN c fb n ρ2 S2 = r := by
    unfold sWhile at h3
    split at h3
    · rename_i hx
      exact ⟨_, h3⟩
    · exact absurd h3.symm hr
  obtain ⟨n, hn⟩ := this
  refine sWhile_eq (n := n + 1) ?_ hr
  unfold sWhileN
  rw [h]
  simp only [h2, hn]
theorem opMul_small {a b : Int} {S : Sto} (h : -1000000 < a) (g : a < 1000000) : opMul (.int a) (.int b) S = .ok (.int (a * b)) S := by
  have h1 : -18446744073709551616 < a ∧ a < 18446744073709551616 := by omega
  simp [h1]
theorem opDiv_small {a b : Int} {S : Sto} (h : 0 < b) (g : b < 1000000) : opDiv (.int a) (.int b) S = .ok (.int (a / b)) S := by
  have h2 : b.natAbs.log2 < 9000 := by
    have : b.natAbs.log2 < 20 := (Nat.log2_lt (by omega)).mpr (by omega)
    omega
  simp [opDiv, h, h2]
noncomputable abbrev comC : Sem := (sem2 opNe (semVar 3) (semC (.int 0)))
noncomputable abbrev comB : SemS := (sPar [2, 3] (semCons (semVar 3) (semCons (sem2 opMod (semVar 2) (semVar 3)) semNil)))
theorem com_loop {S : Sto} {a b : D} : ∀ (n y x : Nat), y ≤ n → sWhile comC comB [some a, some b, some (.int x), some (.int y)] S = .nx [some a, some b, some (.int (Nat.gcd x y)), some (.int 0)] S
  | 0, y, x, h => by
    obtain rfl : y = 0 := by omega
    rw [Nat.gcd_zero_right]
    exact sWhile_stop (by simp)
  | n + 1, y, x, h => by
    by_cases hy : y = 0
    · subst hy
      rw [Nat.gcd_zero_right]
      exact sWhile_stop (by simp)
    · have hp : (0 : Int) < y := by omega
      have ih := com_loop (S := S) (a := a) (b := b) n (x % y) y (by have := Nat.mod_lt x (show 0 < y by omega); omega)
      have e : Nat.gcd y (x % y) = Nat.gcd x y := by rw [Nat.gcd_comm, ← Nat.gcd_rec, Nat.gcd_comm]
      rw [e] at ih
      refine sWhile_go (S1 := S) (by simp [hy]) (ρ2 := [some a, some b, some (.int y), some (.int (x % y : Nat))]) ?_ ih (by simp)
      have hp2 : 0 < y := by omega
      simp [opMod, hp2, Int.natCast_emod]
theorem com_tail {x y g : Int} {S : Sto} (h0 : -1000000 < x) (h1 : x < 1000000) (g0 : 0 < g) (g1 : g < 1000000) : finR (sRet (sem2 opDiv (sem2 opMul (semVar 0) (semVar 1)) (semVar 2)) [some (.int x), some (.int y), some (.int g), some (.int 0)] S) = .ok (.int (x * y / g)) S := by
  have hm : ∀ S, opMul (.int x) (.int y) S = .ok (.int (x * y)) S := fun S => opMul_small h0 h1
  have hd : ∀ S, opDiv (.int (x * y)) (.int g) S = .ok (.int (x * y / g)) S := fun S => opDiv_small g0 g1
  simp [-opMul_int, hm, hd]
theorem common_eq {S : Sto} {a b : Nat} (ha : 0 < a) (ha2 : a < 1000000) (hb2 : b < 1000000) : g_common [.int a, .int b] S = .ok (.int (Nat.lcm a b)) S := by
  have h1 := com_loop (S := S) (a := .int a) (b := .int b) b b a (Nat.le_refl _)
  have hg : 0 < Nat.gcd a b := Nat.gcd_pos_of_pos_left _ ha
  have hg2 : Nat.gcd a b ≤ a := Nat.le_of_dvd ha (Nat.gcd_dvd_left _ _)
  have e2 : g_common [.int a, .int b] S = finR (sSeq (sPar [2, 3] (semCons (semVar 0) (semCons (semVar 1) semNil))) (sSeq (sWhile comC comB) (sRet (sem2 opDiv (sem2 opMul (semVar 0) (semVar 1)) (semVar 2)))) [some (.int a), some (.int b), none, none] S) := rfl
  have e3 : sPar [2, 3] (semCons (semVar 0) (semCons (semVar 1) semNil)) [some (.int a), some (.int b), none, none] S = .nx [some (.int a), some (.int b), some (.int a), some (.int b)] S := by simp
  rw [e2, sSeq_eq, e3, seqS_nx, sSeq_eq, h1, seqS_nx, com_tail (by omega) (by omega) (by omega) (by omega), Nat.lcm, Int.natCast_ediv, Int.natCast_mul]
/-- a deed's period; how far it reaches -/
def perD (m : Nat) : Deed → Nat
  | .turn false k _ => k.toNat
  | .move false true _ => m
  | _ => 1
def per (m : Nat) (xs : List Deed) : Nat := xs.foldl (fun a x => Nat.lcm a (perD m x)) 1
def farD (m : Nat) : Deed → Nat
  | .move false false i => i.natAbs
  | .move true true i => i.natAbs * (m - 1)
  | _ => 0
def far (m : Nat) (xs : List Deed) : Nat := xs.foldl (fun a x => a + farD m x) 0
theorem perD_12 {m : Nat} (hm0 : 2 ≤ m) (hm : m ≤ 4) {x : Deed} (hx : x.Ok) : perD m x ∣ 12 ∧ 0 < perD m x := by
  have key : ∀ m, m = 1 ∨ m = 2 ∨ m = 3 ∨ m = 4 → m ∣ 12 ∧ 0 < m := by rintro m (rfl | rfl | rfl | rfl) <;> decide
  cases x with
  | back s => exact key 1 (.inl rfl)
  | move s b i => cases s <;> cases b <;> first | exact key 1 (.inl rfl) | exact key m (by omega)
  | turn s k q =>
    obtain ⟨h1, h2, h3, h4⟩ := hx
    cases s
    · exact key _ (by show k.toNat = 1 ∨ k.toNat = 2 ∨ k.toNat = 3 ∨ k.toNat = 4; omega)
    · exact key 1 (.inl rfl)
theorem lcm_12 {a b : Nat} (ha : a ∣ 12) (hb : b ∣ 12) : Nat.lcm a b ∣ 12 := Nat.lcm_dvd ha hb
theorem le_12 {a : Nat} (h : a ∣ 12) : 0 < a ∧ a ≤ 12 := by
  refine ⟨?_, Nat.le_of_dvd (by decide) h⟩
  rcases Nat.eq_zero_or_pos a with rfl | h1
  · exact absurd h (by decide)
  · exact h1
theorem foldper_12 {m : Nat} (hm0 : 2 ≤ m) (hm : m ≤ 4) : ∀ (xs : List Deed) (a : Nat), (∀ x ∈ xs, x.Ok) → a ∣ 12 → xs.foldl (fun a x => Nat.lcm a (perD m x)) a ∣ 12
  | [], a, _, h => h
  | x :: xs, a, hx, h => foldper_12 hm0 hm xs _ (fun y hy => hx y (List.mem_cons_of_mem _ hy)) (lcm_12 h (perD_12 hm0 hm (hx x (List.mem_cons_self ..))).1)
theorem per_12 {m : Nat} {xs : List Deed} (hm0 : 2 ≤ m) (hm : m ≤ 4) (hx : ∀ x ∈ xs, x.Ok) : per m xs ∣ 12 := foldper_12 hm0 hm xs 1 hx (by decide)
noncomputable abbrev perB : SemS := (sSeq (sIf (semAnd (sem2 opEq (sem2 opIx (semVar 3) (semC (.int 0))) (semC (.str "slices"))) (sem2 opEq (sem2 opIx (semVar 3) (semC (.int 1))) (semC (.str "turn")))) (sAsg (semCall (fun ds S => if ds.length = 2 then g_common ds S else .no) (semCons (semVar 2) (semCons (sem2 opIx (semVar 3) (semC (.int 2))) semNil))) (gNm 2)) sNil) (sIf (semAnd (sem2 opEq (sem2 opIx (semVar 3) (semC (.int 0))) (semC (.str "slices"))) (sem2 opEq (sem2 opIx (semVar 3) (semC (.int 1))) (semC (.str "shift")))) (sAsg (semCall (fun ds S => if ds.length = 2 then g_common ds S else .no) (semCons (semVar 2) (semCons (semVar 0) semNil))) (gNm 2)) sNil))
theorem per_step {m a : Nat} {S : Sto} {P : D} (x : Deed) (hx : x.Ok) (hm : m ≤ 4) (ha : a ∣ 12) : perB [some (.int m), some P, some (.int a), some x.d] S = .nx [some (.int m), some P, some (.int (Nat.lcm a (perD m x) : Nat)), some x.d] S := by
  obtain ⟨r1, r2, r3, r4, n1, n2, n3, n4, n5, n6, n7, n8, n9, n10, n11, n12, n13, n14⟩ := words
  obtain ⟨a0, a1⟩ := le_12 ha
  cases x with
  | back s => cases s <;> simp [Deed.d, sd, atI, ixN, perD, n2, n10, n13]
  | move s b i =>
    have h1 := common_eq (S := S) (a := a) (b := m) a0 (by omega) (by omega)
    cases s <;> cases b <;> simp [Deed.d, sd, mv, atI, ixN, perD, n8, n9, n11, n13, h1]
  | turn s k q =>
    obtain ⟨k1, k2, k3, k4⟩ := hx
    have h1 := common_eq (S := S) (a := a) (b := k.toNat) a0 (by omega) (by omega)
    have e : ((k.toNat : Nat) : Int) = k := Int.toNat_of_nonneg (by omega)
    rw [e] at h1
    cases s <;> simp [Deed.d, sd, mv, atI, ixN, perD, n4, n13, h1]
theorem per_loop {m : Nat} {S : Sto} {P : D} (hm0 : 2 ≤ m) (hm : m ≤ 4) : ∀ (xs : List Deed) (a : Nat) (z : Option D), (∀ x ∈ xs, x.Ok) → a ∣ 12 →
    ∃ z', sLoop (gNm 3) perB (xs.map Deed.d) [some (.int m), some P, some (.int a), z] S = .nx [some (.int m), some P, some (.int (xs.foldl (fun a x => Nat.lcm a (perD m x)) a : Nat)), z'] S
  | [], a, z, _, _ => ⟨z, rfl⟩
  | x :: xs, a, z, hx, ha => by
    have h1 := per_step (S := S) (P := P) x (hx x (List.mem_cons_self ..)) hm ha
    obtain ⟨z', h2⟩ := per_loop (S := S) (P := P) hm0 hm xs (Nat.lcm a (perD m x)) (some x.d) (fun y hy => hx y (List.mem_cons_of_mem _ hy)) (lcm_12 ha (perD_12 hm0 hm (hx x (List.mem_cons_self ..))).1)
    exact ⟨z', (sLoop_step (ρ1 := [some (.int m), some P, some (.int a), some x.d]) rfl h1).trans h2⟩
theorem period_of_eq {m : Nat} {S : Sto} {xs : List Deed} (hm0 : 2 ≤ m) (hm : m ≤ 4) (hx : ∀ x ∈ xs, x.Ok) : g_period_of [.int m, .tup (xs.map Deed.d)] S = .ok (.int (per m xs)) S := by
  obtain ⟨z', h1⟩ := per_loop (S := S) (P := .tup (xs.map Deed.d)) hm0 hm xs 1 none hx (by decide)
  have e2 : g_period_of [.int m, .tup (xs.map Deed.d)] S = finR (sSeq (sAsg (semC (.int 1)) (gNm 2)) (sSeq (sFor (semItems (semVar 1)) (gNm 3) perB) (sRet (semVar 2))) [some (.int m), some (.tup (xs.map Deed.d)), none, none] S) := rfl
  have e3 : sAsg (semC (.int 1)) (gNm 2) [some (.int m), some (.tup (xs.map Deed.d)), none, none] S = .nx [some (.int m), some (.tup (xs.map Deed.d)), some (.int (1 : Nat)), none] S := by simp
  rw [e2, sSeq_eq, e3, seqS_nx, sSeq_eq, (sFor_ok (ds := xs.map Deed.d) (by simp)).trans h1, seqS_nx]
  simp [per]
theorem opEq_pair {S : Sto} {a b c d : Str} (ha : PyData.strOk a = true) (hb : PyData.strOk b = true) (hc : PyData.strOk c = true) (hd : PyData.strOk d = true) : opEq (.tup [.str a, .str b]) (.tup [.str c, .str d]) S = .ok (.bl (decide (a = c) && decide (b = d))) S := by
  have e : eqD S (.tup [.str a, .str b]) (.tup [.str c, .str d]) = some (decide (a = c) && decide (b = d)) := by
    have s1 : ∀ {a b : Str}, PyData.strOk a = true → PyData.strOk b = true → SeqAt.shaped (.tuple [.str a, .str b]) = true := fun {a b} ha hb => by
      simp [SeqAt.shaped, PyData.canLay0, PyData.canLayAll0, PyData.depth, PyData.depthAll, ha, hb]
    have e0 : eqD S (.tup [.str a, .str b]) (.tup [.str c, .str d]) = (if SeqAt.shaped (.tuple [.str a, .str b]) && SeqAt.shaped (.tuple [.str c, .str d]) then some (PyData.eqv (.tuple [.str a, .str b]) (.tuple [.str c, .str d])) else none) := rfl
    rw [e0, s1 ha hb, s1 hc hd]
    simp only [Bool.and_self, if_true, Option.some.injEq]
    rw [Bool.eq_iff_iff]
    simp [PyData.eqv, PyData.eqvAll]
  simp [opEq, e]
noncomputable abbrev farB : SemS := (sSeq (sIf (sem2 opEq (semSl (semVar 3) .no (.e (semC (.int 2)))) (semTup (semCons (semC (.str "slices")) (semCons (semC (.str "roll")) semNil)))) (sAsg (sem2 opAdd (semVar 2) (semCall bAbs (semCons (sem2 opIx (semVar 3) (semC (.int 2))) semNil))) (gNm 2)) sNil) (sIf (sem2 opEq (semSl (semVar 3) .no (.e (semC (.int 2)))) (semTup (semCons (semC (.str "rows")) (semCons (semC (.str "shift")) semNil)))) (sAsg (sem2 opAdd (semVar 2) (sem2 opMul (semCall bAbs (semCons (sem2 opIx (semVar 3) (semC (.int 2))) semNil)) (sem2 opSub (semVar 0) (semC (.int 1))))) (gNm 2)) sNil))
def wordOf : Deed → Str
  | .back _ => "back" | .move _ b _ => mv b | .turn _ _ _ => "turn"
theorem deed_cut2 (x : Deed) (S : Sto) : opSl x.d none (some 2) S = .ok (.tup [.str (sd x.side), .str (wordOf x)]) S := by
  cases x <;> rfl
theorem sd_ok (s : Bool) : PyData.strOk (sd s) = true := by cases s <;> decide +kernel
theorem word_ok (x : Deed) : PyData.strOk (wordOf x) = true := by
  cases x with
  | back s => show PyData.strOk "back" = true; decide +kernel
  | move s b i => show PyData.strOk (mv b) = true; cases b <;> decide +kernel
  | turn s k q => show PyData.strOk "turn" = true; decide +kernel
theorem abs_nat (i : Int) : (if i < 0 then -i else i) = (i.natAbs : Int) := by split <;> omega
theorem far_step {m a : Nat} {S : Sto} {P : D} (x : Deed) (hx : x.Ok) (hm0 : 1 ≤ m) : farB [some (.int m), some P, some (.int a), some x.d] S = .nx [some (.int m), some P, some (.int (a + farD m x : Nat)), some x.d] S := by
  obtain ⟨r1, r2, r3, r4, n1, n2, n3, n4, n5, n6, n7, n8, n9, n10, n11, n12, n13, n14⟩ := words
  have q1 := fun S => opEq_pair (S := S) (sd_ok x.side) (word_ok x) r2 r3
  have q2 := fun S => opEq_pair (S := S) (sd_ok x.side) (word_ok x) r1 r4
  have c2 := deed_cut2 x
  cases x with
  | back s =>
    cases s <;> simp only [Deed.side, wordOf, sd] at c2 q1 q2 <;> simp [semSl, OEx.run, c2, q1, q2, farD, n1, n2, n13, n14]
  | move s b i =>
    obtain ⟨i1, i2, i3⟩ := hx
    have ix2 : ∀ S, opIx (Deed.move s b i).d (.int 2) S = .ok (.int i) S := fun S => rfl
    have hj := abs_nat i
    obtain ⟨j, ej⟩ : ∃ j : Int, j = (if i < 0 then -i else i) := ⟨_, rfl⟩
    have hab : ∀ S, bAbs [.int i] S = .ok (.int j) S := fun S => by rw [ej]; rfl
    have hj2 : j = (i.natAbs : Int) := ej.trans hj
    clear ej hj
    have hmul : ∀ (y : Int) S, opMul (.int j) (.int y) S = .ok (.int (j * y)) S := fun y S => opMul_small (by omega) (by omega)
    have e1 : ((a + farD m (.move s b i) : Nat) : Int) = (a : Int) + (match s, b with | false, false => j | true, true => j * ((m : Int) - 1) | _, _ => 0) := by
      have em : ((m : Int) - 1) = ((m - 1 : Nat) : Int) := by omega
      cases s <;> cases b <;> simp only [farD, Int.natCast_add, hj2, em, Int.natCast_mul] <;> rfl
    rw [e1]
    clear e1 hj2
    cases s <;> cases b <;> simp only [Deed.side, wordOf, sd, mv] at c2 q1 q2 <;> simp [semSl, OEx.run, c2, q1, q2, n11, n12, n13, n14, ix2, hab, -opMul_int, hmul]
  | turn s k q => cases s <;> simp only [Deed.side, wordOf, sd] at c2 q1 q2 <;> simp [semSl, OEx.run, c2, q1, q2, farD, n3, n4, n13, n14]
theorem far_loop {m : Nat} {S : Sto} {P : D} (hm0 : 1 ≤ m) : ∀ (xs : List Deed) (a : Nat) (z : Option D), (∀ x ∈ xs, x.Ok) →
    ∃ z', sLoop (gNm 3) farB (xs.map Deed.d) [some (.int m), some P, some (.int a), z] S = .nx [some (.int m), some P, some (.int (xs.foldl (fun a x => a + farD m x) a : Nat)), z'] S
  | [], a, z, _ => ⟨z, rfl⟩
  | x :: xs, a, z, hx => by
    have h1 := far_step (a := a) (S := S) (P := P) x (hx x (List.mem_cons_self ..)) hm0
    obtain ⟨z', h2⟩ := far_loop (S := S) (P := P) hm0 xs (a + farD m x) (some x.d) (fun y hy => hx y (List.mem_cons_of_mem _ hy))
    exact ⟨z', (sLoop_step (ρ1 := [some (.int m), some P, some (.int a), some x.d]) rfl h1).trans h2⟩
theorem reach_of_eq {m : Nat} {S : Sto} {xs : List Deed} (hm0 : 1 ≤ m) (hx : ∀ x ∈ xs, x.Ok) : g_reach_of [.int m, .tup (xs.map Deed.d)] S = .ok (.int (far m xs)) S := by
  obtain ⟨z', h1⟩ := far_loop (S := S) (P := .tup (xs.map Deed.d)) hm0 xs 0 none hx
  have e2 : g_reach_of [.int m, .tup (xs.map Deed.d)] S = finR (sSeq (sAsg (semC (.int 0)) (gNm 2)) (sSeq (sFor (semItems (semVar 1)) (gNm 3) farB) (sRet (semVar 2))) [some (.int m), some (.tup (xs.map Deed.d)), none, none] S) := rfl
  have e3 : sAsg (semC (.int 0)) (gNm 2) [some (.int m), some (.tup (xs.map Deed.d)), none, none] S = .nx [some (.int m), some (.tup (xs.map Deed.d)), some (.int (0 : Nat)), none] S := by simp
  rw [e2, sSeq_eq, e3, seqS_nx, sSeq_eq, (sFor_ok (ds := xs.map Deed.d) (by simp)).trans h1, seqS_nx]
  simp [far]
end Sh
namespace Sh
open PySem L2 GB
/-! ### the law's bounds -/
def okS (p b : Nat) (d : D) : Bool := match d with
  | .int s => decide (s % (p : Int) = 0) && decide (s % (b : Int) = 0)
  | _ => false
def candL (p : Nat) : List D := (List.range (12 * p)).map fun t => D.int ((p : Int) + (t : Nat))
def leastD (l : List D) : Option Int := match intsOf l with
  | some ns => if 0 < ns.length then some (leastOf ns) else none
  | none => none
theorem least_lcm : ∀ p ∈ [1, 2, 3, 4, 6, 12], ∀ b ∈ [1, 2, 3, 4], leastD ((candL p).filter (okS p b)) = some ((Nat.lcm p b : Nat) : Int) := by decide +kernel
theorem bMin_least {l : List D} {S : Sto} {i : Int} (h : leastD l = some i) : bMin [D.lst l] S = .ok (D.int i) S := by
  unfold leastD at h
  show (match lstOf S (.lst l) with
    | some xs => (match intsOf xs with
      | some ns => if 0 < ns.length then R.ok (D.int (leastOf ns)) S else .no
      | none => .no)
    | none => .no) = _
  show (match intsOf l with
      | some ns => if 0 < ns.length then R.ok (D.int (leastOf ns)) S else .no
      | none => .no) = _
  cases hn : intsOf l with
  | none => rw [hn] at h; cases h
  | some ns =>
    rw [hn] at h
    dsimp only at h ⊢
    by_cases h0 : 0 < ns.length
    · rw [if_pos h0] at h ⊢; cases h; rfl
    · rw [if_neg h0] at h; cases h
theorem dvd12_mem {a : Nat} (h : a ∣ 12) : a ∈ [1, 2, 3, 4, 6, 12] := by
  obtain ⟨h0, h1⟩ := le_12 h
  have key : ∀ a ≤ 12, a ∣ 12 → a ∈ [1, 2, 3, 4, 6, 12] := by decide +kernel
  exact key a h1 h
noncomputable def lbMin : Sem := (semCall bMin (semCons (semLc finD (semArg bRange2 (semCons (semVar 2) (semCons (sem2 opMul (semC (.int 13)) (semVar 2)) semNil))) [5] (gNm 5) (semAnd (sem2 opEq (sem2 opMod (semVar 5) (semVar 2)) (semC (.int 0))) (sem2 opEq (sem2 opMod (semVar 5) (semVar 4)) (semC (.int 0)))) (semVar 5)) semNil))
theorem lbMin_eq {a b : Nat} {S : Sto} {x0 x1 x3 x5 : Option D} (ha : a ∣ 12) (hb : b ∈ [1, 2, 3, 4]) : lbMin [x0, x1, some (.int a), x3, some (.int b), x5] S = .ok (.int (Nat.lcm a b : Nat)) S := by
  obtain ⟨a0, a1⟩ := le_12 ha
  have hb0 : 0 < b := by
    simp only [List.mem_cons, List.not_mem_nil, or_false] at hb
    omega
  have pa : (0 : Int) < a := by omega
  have pb : (0 : Int) < b := by omega
  have key := cLoop_filter (i := 5) (ρ := [x0, x1, some (.int a), x3, some (.int b), none]) (S := S) (ft := semAnd (sem2 opEq (sem2 opMod (semVar 5) (semVar 2)) (semC (.int 0))) (sem2 opEq (sem2 opMod (semVar 5) (semVar 4)) (semC (.int 0)))) (fe := semVar 5) (f := fun d => d) (p := okS a b) (ds := candL a) (fun d hd => by
    obtain ⟨t, _, rfl⟩ := List.mem_map.mp hd
    have pa2 : 0 < a := by omega
    simp [opMod, pa2, hb0, okS]) (fun d hd _ => by simp)
  rw [List.map_id'] at key
  have e1 : bRange2 [.int (a : Nat), .int (13 * (a : Nat))] S = .ok (candL a) S := by
    rw [bRange2_ok (by omega) (by omega)]
    have : ((13 : Int) * (a : Nat) - (a : Nat)).toNat = 12 * a := by omega
    rw [this]; rfl
  have hl : (candL a).length ≤ 16777216 := by simp [candL]; omega
  have hw : wipeE [x0, x1, some (.int a), x3, some (.int b), x5] [5] = [x0, x1, some (.int a), x3, some (.int b), none] := rfl
  have h3 := bMin_least (S := S) (least_lcm a (dvd12_mem ha) b hb)
  simp [lbMin, e1, hl, hw, key, h3]
noncomputable abbrev lbB : SemS := (sSeq (sIf (semOr (semAnd (sem2 opEq (sem2 opIx (semVar 1) (semC (.int 0))) (semC (.str "slices"))) (sem2 opEq (sem2 opIx (semVar 1) (semC (.int 1))) (semC (.str "turn")))) (sem2 opEq (semSl (semVar 1) .no (.e (semC (.int 2)))) (semTup (semCons (semC (.str "slices")) (semCons (semC (.str "shift")) semNil))))) (sSeq (sAsg (semIte (sem2 opEq (sem2 opIx (semVar 1) (semC (.int 1))) (semC (.str "turn"))) (sem2 opIx (semVar 1) (semC (.int 2))) (semCall bLen (semCons (sem2 opIx (semVar 0) (semC (.int 0))) semNil))) (gNm 4)) (sAsg lbMin (gNm 2))) sNil) (sSeq (sIf (sem2 opEq (semSl (semVar 1) .no (.e (semC (.int 2)))) (semTup (semCons (semC (.str "slices")) (semCons (semC (.str "roll")) semNil)))) (sAsg (sem2 opAdd (semVar 3) (semCall bAbs (semCons (sem2 opIx (semVar 1) (semC (.int 2))) semNil))) (gNm 3)) sNil) (sIf (sem2 opEq (semSl (semVar 1) .no (.e (semC (.int 2)))) (semTup (semCons (semC (.str "rows")) (semCons (semC (.str "shift")) semNil)))) (sAsg (sem2 opAdd (semVar 3) (sem2 opMul (semCall bAbs (semCons (sem2 opIx (semVar 1) (semC (.int 2))) semNil)) (sem2 opSub (semCall bLen (semCons (sem2 opIx (semVar 0) (semC (.int 0))) semNil)) (semC (.int 1))))) (gNm 3)) sNil)))
theorem deed_ix1 (x : Deed) (S : Sto) : opIx x.d (.int 1) S = .ok (.str (wordOf x)) S := by
  cases x <;> rfl
theorem planD_ix0 (ws : List D) (xs : List Deed) (S : Sto) : opIx (planD ws xs) (.int 0) S = .ok (.tup ws) S := by simp [planD, atI, ixN]
theorem planD_ix1 (ws : List D) (xs : List Deed) (S : Sto) : opIx (planD ws xs) (.int 1) S = .ok (.tup (xs.map Deed.d)) S := by simp [planD, atI, ixN]
theorem lb_step {ws : List D} {ys : List Deed} {a f : Nat} {S : Sto} {x4 x5 : Option D} (x : Deed) (hx : x.Ok) (hm0 : 2 ≤ ws.length) (hm : ws.length ≤ 4) (ha : a ∣ 12) :
    ∃ y4 y5, lbB [some (planD ws ys), some x.d, some (.int a), some (.int f), x4, x5] S = .nx [some (planD ws ys), some x.d, some (.int (Nat.lcm a (perD ws.length x) : Nat)), some (.int (f + farD ws.length x : Nat)), y4, y5] S := by
  obtain ⟨r1, r2, r3, r4, n1, n2, n3, n4, n5, n6, n7, n8, n9, n10, n11, n12, n13, n14⟩ := words
  have q0 := fun S => opEq_pair (S := S) (sd_ok x.side) (word_ok x) r2 r4
  have q1 := fun S => opEq_pair (S := S) (sd_ok x.side) (word_ok x) r2 r3
  have q2 := fun S => opEq_pair (S := S) (sd_ok x.side) (word_ok x) r1 r4
  have em : ((ws.length : Int) - 1) = ((ws.length - 1 : Nat) : Int) := by omega
  have c2 := deed_cut2 x
  have i0 := deed_ix0 x
  have i1 := deed_ix1 x
  have p0 := planD_ix0 ws ys
  have hmb : ws.length ∈ [1, 2, 3, 4] := by
    simp only [List.mem_cons, List.not_mem_nil, or_false]; omega
  cases x with
  | back s =>
    refine ⟨x4, x5, ?_⟩
    cases s <;> simp only [Deed.side, wordOf, sd] at i0 i1 c2 q0 q1 q2 <;> simp [semSl, OEx.run, i0, i1, c2, q0, q1, q2, perD, farD, n1, n2, n10, n13, n14]
  | move s b i =>
    obtain ⟨i1', i2', i3'⟩ := hx
    have i2 : ∀ S, opIx (Deed.move s b i).d (.int 2) S = .ok (.int i) S := fun S => rfl
    have hmin := lbMin_eq (S := S) (x0 := some (planD ws ys)) (x1 := some (Deed.move s b i).d) (x3 := some (.int f)) (x5 := x5) ha hmb
    have hj := abs_nat i
    obtain ⟨j, ej⟩ : ∃ j : Int, j = (if i < 0 then -i else i) := ⟨_, rfl⟩
    have hab : ∀ S, bAbs [.int i] S = .ok (.int j) S := fun S => by rw [ej]; rfl
    have hj2 : j = (i.natAbs : Int) := ej.trans hj
    clear ej hj
    have hmul : ∀ (y : Int) S, opMul (.int j) (.int y) S = .ok (.int (j * y)) S := fun y S => opMul_small (by omega) (by omega)
    have e1 : ((f + farD ws.length (.move s b i) : Nat) : Int) = (f : Int) + (match s, b with | false, false => j | true, true => j * ((ws.length : Int) - 1) | _, _ => 0) := by
      cases s <;> cases b <;> simp only [farD, Int.natCast_add, hj2, em, Int.natCast_mul] <;> rfl
    rw [e1]
    clear e1 hj2
    refine ⟨if s = false ∧ b = true then some (.int ws.length) else x4, x5, ?_⟩
    cases s <;> cases b <;> simp only [Deed.side, wordOf, sd, mv] at i0 i1 c2 q0 q1 q2 <;> simp [semSl, OEx.run, i0, i1, c2, q0, q1, q2, perD, n8, n9, n11, n12, n13, n14, i2, hab, p0, hmin, -opMul_int, hmul]
  | turn s k q =>
    obtain ⟨k1, k2, k3, k4⟩ := hx
    have i2 : ∀ S, opIx (Deed.turn s k q).d (.int 2) S = .ok (.int k) S := fun S => rfl
    have e : ((k.toNat : Nat) : Int) = k := Int.toNat_of_nonneg (by omega)
    have hmin := lbMin_eq (S := S) (b := k.toNat) (x0 := some (planD ws ys)) (x1 := some (Deed.turn s k q).d) (x3 := some (.int f)) (x5 := x5) ha (by simp only [List.mem_cons, List.not_mem_nil, or_false]; omega)
    rw [e] at hmin
    refine ⟨if s = false then some (.int k) else x4, x5, ?_⟩
    cases s <;> simp only [Deed.side, wordOf, sd] at i0 i1 c2 q0 q1 q2 <;> simp [semSl, OEx.run, i0, i1, c2, q0, q1, q2, perD, farD, n3, n4, n13, n14, i2, hmin]
theorem lb_loop {ws : List D} {ys : List Deed} {S : Sto} (hm0 : 2 ≤ ws.length) (hm : ws.length ≤ 4) : ∀ (xs : List Deed) (a f : Nat) (x1 x4 x5 : Option D), (∀ x ∈ xs, x.Ok) → a ∣ 12 →
    ∃ y1 y4 y5, sLoop (gNm 1) lbB (xs.map Deed.d) [some (planD ws ys), x1, some (.int a), some (.int f), x4, x5] S = .nx [some (planD ws ys), y1, some (.int (xs.foldl (fun a x => Nat.lcm a (perD ws.length x)) a : Nat)), some (.int (xs.foldl (fun a x => a + farD ws.length x) f : Nat)), y4, y5] S
  | [], a, f, x1, x4, x5, _, _ => ⟨x1, x4, x5, rfl⟩
  | x :: xs, a, f, x1, x4, x5, hx, ha => by
    obtain ⟨z4, z5, h1⟩ := lb_step (ys := ys) (f := f) (S := S) (x4 := x4) (x5 := x5) x (hx x (List.mem_cons_self ..)) hm0 hm ha
    obtain ⟨y1, y4, y5, h2⟩ := lb_loop (ys := ys) (S := S) hm0 hm xs (Nat.lcm a (perD ws.length x)) (f + farD ws.length x) (some x.d) z4 z5 (fun y hy => hx y (List.mem_cons_of_mem _ hy)) (lcm_12 ha (perD_12 hm0 hm (hx x (List.mem_cons_self ..))).1)
    exact ⟨y1, y4, y5, (sLoop_step (ρ1 := [some (planD ws ys), some x.d, some (.int a), some (.int f), x4, x5]) rfl h1).trans h2⟩
theorem law_bounds_eq {ws : List D} {xs : List Deed} {S : Sto} (hm0 : 2 ≤ ws.length) (hm : ws.length ≤ 4) (hx : ∀ x ∈ xs, x.Ok) : g__law_bounds [planD ws xs] S = .ok (.tup [.int (per ws.length xs), .int (far ws.length xs)]) S := by
  obtain ⟨y1, y4, y5, h1⟩ := lb_loop (ys := xs) (S := S) hm0 hm xs 1 0 none none none hx (by decide)
  have e2 : g__law_bounds [planD ws xs] S = finR (sSeq (sAsg (semTup (semCons (semC (.int 1)) (semCons (semC (.int 0)) semNil))) (gTp [2, 3])) (sSeq (sFor (semItems (sem2 opIx (semVar 0) (semC (.int 1)))) (gNm 1) lbB) (sRet (semTup (semCons (semVar 2) (semCons (semVar 3) semNil))))) [some (planD ws xs), none, none, none, none, none] S) := rfl
  have e3 : sAsg (semTup (semCons (semC (.int 1)) (semCons (semC (.int 0)) semNil))) (gTp [2, 3]) [some (planD ws xs), none, none, none, none, none] S = .nx [some (planD ws xs), none, some (.int (1 : Nat)), some (.int (0 : Nat)), none, none] S := by simp
  rw [e2, sSeq_eq, e3, seqS_nx, sSeq_eq, (sFor_ok (ds := xs.map Deed.d) (by simp [planD_ix1])).trans h1, seqS_nx]
  simp [per, far]
end Sh
namespace Sh
open PySem L2 GB
/-! ### the first place at which two plans part -/
/-- a loop that may hand back, the store growing -/
theorem sLoop_retG {g : SemG} {fb : SemS} (I : GB.Env → Sto → Prop) (J : Sto → Prop) (f : D → Option D) : ∀ {ds : List D} {ρ : GB.Env} {S : Sto}, I ρ S → (∀ d ∈ ds, ∀ ρ S, I ρ S → ∃ ρ1, g d ρ S = some ρ1 ∧ ((f d = none ∧ ∃ ρ2 S2, fb ρ1 S = .nx ρ2 S2 ∧ I ρ2 S2) ∨ ∃ v S2, f d = some v ∧ fb ρ1 S = .rt v S2 ∧ J S2)) →
    (ds.findSome? f = none ∧ ∃ ρ' S', sLoop g fb ds ρ S = .nx ρ' S' ∧ I ρ' S') ∨ ∃ v S', ds.findSome? f = some v ∧ sLoop g fb ds ρ S = .rt v S' ∧ J S'
  | [], ρ, S, h, _ => .inl ⟨rfl, ρ, S, rfl, h⟩
  | d :: ds, ρ, S, h, hs => by
    obtain ⟨ρ1, h1, h2⟩ := hs d (List.mem_cons_self ..) ρ S h
    rcases h2 with ⟨h2, ρ2, S2, h3, h4⟩ | ⟨v, S2, h2, h3, h4⟩
    · have ih := sLoop_retG (g := g) (fb := fb) I J f (ds := ds) h4 fun e he => hs e (List.mem_cons_of_mem _ he)
      rw [sLoop_step h1 h3, List.findSome?_cons, h2]
      exact ih
    · refine .inr ⟨v, S2, by rw [List.findSome?_cons, h2], ?_, h4⟩
      conv => lhs; unfold sLoop
      rw [h1]
      simp only [h3]
theorem brd_ix {T : Nat → Nat → Nat} {m n r : Nat} {S : Sto} (h : r < m) : opIx (brd T m n) (.int (r : Nat)) S = .ok (.str (lineS (T r) n)) S := by
  have : atI (linesL T m n) ((r : Nat) : Int) = some (.str (lineS (T r) n)) := atI_map (f := fun l => D.str (lineS (T l) n)) (ss := List.range m) (i := (r : Nat)) (by omega) (by simp [h])
  simp [brd, this]
/-- the ints below n -/
def upsN (n : Nat) : List D := (List.range n).map fun i => .int (i : Nat)
def cellP (T U : Nat → Nat → Nat) (n : Int) (r : Nat) : D → Option D := fun d => match d with
  | .int c => if T r c.toNat = U r c.toNat then none else some (.tup [.int n, .int (r : Nat), .int c])
  | _ => none
def rowP (T U : Nat → Nat → Nat) (n : Nat) : D → Option D := fun d => match d with
  | .int r => (upsN n).findSome? (cellP T U n r.toNat)
  | _ => none
noncomputable abbrev ptC : SemS := (sIf (sem2 opNe (sem2 opIx (sem2 opIx (semVar 4) (semVar 3)) (semVar 6)) (sem2 opIx (sem2 opIx (semVar 5) (semVar 3)) (semVar 6))) (sRet (semTup (semCons (semVar 2) (semCons (semVar 3) (semCons (semVar 6) semNil))))) sNil)
noncomputable abbrev ptR : SemS := (sFor (semArg bRange1 (semCons (semVar 2) semNil)) (gNm 6) ptC)
theorem tx1_ne (a b : Nat) : (decide (tx [a] = tx [b])) = decide (a = b) := by
  rw [Bool.eq_iff_iff, decide_eq_true_eq, decide_eq_true_eq, tx_inj]; simp
theorem range_ups {n : Nat} {S : Sto} (h : n < 1000000) : bRange1 [.int (n : Nat)] S = .ok (upsN n) S := by
  rw [bRange1_ok (by omega)]; simp [upsN]
theorem upsN_mem {n : Nat} {d : D} (h : d ∈ upsN n) : ∃ i : Nat, d = .int (i : Nat) ∧ i < n := by
  obtain ⟨i, hi, rfl⟩ := List.mem_map.mp h
  exact ⟨i, rfl, List.mem_range.mp hi⟩
theorem pt_row {T U : Nat → Nat → Nat} {m n r : Nat} {S : Sto} {x0 x1 x6 : Option D} (hr : r < m) (hn : n ≤ 100000) :
    (rowP T U n (.int (r : Nat)) = none ∧ ∃ y6, ptR [x0, x1, some (.int n), some (.int (r : Nat)), some (brd T m n), some (brd U m n), x6] S = .nx [x0, x1, some (.int n), some (.int (r : Nat)), some (brd T m n), some (brd U m n), y6] S) ∨
    ∃ v, rowP T U n (.int (r : Nat)) = some v ∧ ptR [x0, x1, some (.int n), some (.int (r : Nat)), some (brd T m n), some (brd U m n), x6] S = .rt v S := by
  have hit : semArg bRange1 (semCons (semVar 2) semNil) [x0, x1, some (.int n), some (.int (r : Nat)), some (brd T m n), some (brd U m n), x6] S = .ok (upsN n) S := by
    simp [range_ups (n := n) (by omega)]
  rw [ptR, sFor_ok hit]
  rcases sLoop_ret (g := gNm 6) (fb := ptC) (S := S) (fun ρ => ∃ y6, ρ = [x0, x1, some (.int n), some (.int (r : Nat)), some (brd T m n), some (brd U m n), y6]) (cellP T U n r) (ds := upsN n) ⟨x6, rfl⟩ (fun d hd ρ ⟨y6, hρ⟩ => by
    obtain ⟨c, rfl, hc⟩ := upsN_mem hd
    subst hρ
    refine ⟨_, rfl, ?_⟩
    have e1 := brd_ix (T := T) (n := n) (S := S) hr
    have e2 := brd_ix (T := U) (n := n) (S := S) hr
    have f1 := lineS_ix (f := T r) (S := S) hc hn
    have f2 := lineS_ix (f := U r) (S := S) hc hn
    by_cases e : T r c = U r c
    · refine .inl ⟨by simp [cellP, e], _, ?_, ⟨some (.int (c : Nat)), rfl⟩⟩
      simp [e1, e2, f1, f2, e]
    · refine .inr ⟨_, by simp [cellP, e]; rfl, ?_⟩
      simp [e1, e2, f1, f2, tx1_ne, e]) with ⟨h1, ρ', h2, y6, rfl⟩ | ⟨v, h1, h2⟩
  · exact .inl ⟨h1, y6, h2⟩
  · exact .inr ⟨v, h1, h2⟩
noncomputable abbrev ptRows : SemS := (sFor (semArg bRange1 (semCons (semCall bLen (semCons (semVar 4) semNil)) semNil)) (gNm 3) ptR)
theorem pt_rows {T U : Nat → Nat → Nat} {m n : Nat} {S : Sto} {x0 x1 x3 x6 : Option D} (hm : m ≤ 100000) (hn : n ≤ 100000) :
    ((upsN m).findSome? (rowP T U n) = none ∧ ∃ y3 y6, ptRows [x0, x1, some (.int n), x3, some (brd T m n), some (brd U m n), x6] S = .nx [x0, x1, some (.int n), y3, some (brd T m n), some (brd U m n), y6] S) ∨
    ∃ v, (upsN m).findSome? (rowP T U n) = some v ∧ ptRows [x0, x1, some (.int n), x3, some (brd T m n), some (brd U m n), x6] S = .rt v S := by
  have hl : bLen [brd T m n] S = .ok (.int m) S := by simp [brd, linesL_len]
  have hit : semArg bRange1 (semCons (semCall bLen (semCons (semVar 4) semNil)) semNil) [x0, x1, some (.int n), x3, some (brd T m n), some (brd U m n), x6] S = .ok (upsN m) S := by
    simp [hl, range_ups (n := m) (by omega)]
  rw [ptRows, sFor_ok hit]
  rcases sLoop_ret (g := gNm 3) (fb := ptR) (S := S) (fun ρ => ∃ y3 y6, ρ = [x0, x1, some (.int n), y3, some (brd T m n), some (brd U m n), y6]) (rowP T U n) (ds := upsN m) ⟨x3, x6, rfl⟩ (fun d hd ρ ⟨y3, y6, hρ⟩ => by
    obtain ⟨r, rfl, hr⟩ := upsN_mem hd
    subst hρ
    refine ⟨_, rfl, ?_⟩
    rcases pt_row (T := T) (U := U) (n := n) (S := S) (x0 := x0) (x1 := x1) (x6 := y6) hr hn with ⟨h1, z6, h2⟩ | ⟨v, h1, h2⟩
    · exact .inl ⟨h1, _, h2, _, _, rfl⟩
    · exact .inr ⟨v, h1, h2⟩) with ⟨h1, ρ', h2, y3, y6, rfl⟩ | ⟨v, h1, h2⟩
  · exact .inl ⟨h1, y3, y6, h2⟩
  · exact .inr ⟨v, h1, h2⟩
/-- the numbers 1 to n -/
def numsN (n : Nat) : List D := (List.range n).map fun i => .int (1 + (i : Nat))
theorem numsN_mem {n : Nat} {d : D} (h : d ∈ numsN n) : ∃ i : Nat, d = .int (i : Nat) ∧ 1 ≤ i ∧ i ≤ n := by
  obtain ⟨i, hi, rfl⟩ := List.mem_map.mp h
  have := List.mem_range.mp hi
  exact ⟨1 + i, by simp, by omega, by omega⟩
theorem range_nums {n : Nat} {S : Sto} (h : n < 1000000) : bRange2 [.int 1, .int ((n : Nat) + 1)] S = .ok (numsN n) S := by
  rw [bRange2_ok (by omega) (by omega)]
  have : (((n : Nat) : Int) + 1 - 1).toNat = n := by omega
  rw [this]; rfl
def numP (ws : List D) (xs : List Deed) (vs : List D) (ys : List Deed) : D → Option D := fun d => match d with
  | .int n => (upsN ws.length).findSome? (rowP (bdT ws xs n.toNat) (bdT vs ys n.toNat) n.toNat)
  | _ => none
/-- the first place up to so many slices -/
def partD (ws : List D) (xs : List Deed) (vs : List D) (ys : List Deed) (top : Nat) : Option D := (numsN top).findSome? (numP ws xs vs ys)
def optD : Option D → D
  | none => .non
  | some d => d
structure Pln (ws : List D) (xs : List Deed) : Prop where
  w : ∀ x ∈ ws, isWood x = true
  w0 : 2 ≤ ws.length
  w1 : ws.length ≤ 4
  x : ∀ x ∈ xs, x.Ok
theorem Pln.board {ws : List D} {xs : List Deed} (h : Pln ws xs) {n : Nat} {S : Sto} (h0 : 0 < n) (h1 : n ≤ 100000) : g_board_of [planD ws xs, .int n] S = .ok (bd ws xs n) S :=
  board_of_eq h.w (by have := h.w0; omega) (by have := h.w1; omega) h0 h1 h.x
theorem Pln.lboard {ws : List D} {xs : List Deed} (h : Pln ws xs) {n : Nat} {S : Sto} (h0 : 0 < n) (h1 : n ≤ 10000) : ∃ G, g__law_board [planD ws xs, .int n] S = .ok (bd ws xs n) (S ++ G) :=
  law_board_bd h.w (by have := h.w0; omega) (by have := h.w1; omega) h0 h1 h.x
def topN (m : Nat) (xs ys : List Deed) : Nat := 2 * max (far m xs) (far m ys) + 2 * Nat.lcm (per m xs) (per m ys)
theorem top_of_eq {ws vs : List D} {xs ys : List Deed} {S : Sto} (h : Pln ws xs) (g : Pln vs ys) (hl : ws.length = vs.length) : g_top_of [planD ws xs, planD vs ys] S = .ok (.int (topN ws.length xs ys)) S := by
  have w0 := h.w0
  have w1 := h.w1
  have p1 := period_of_eq (S := S) h.w0 h.w1 h.x
  have p2 := period_of_eq (S := S) g.w0 g.w1 g.x
  have d1 := per_12 h.w0 h.w1 h.x
  have d2 := per_12 g.w0 g.w1 g.x
  have f1 := reach_of_eq (S := S) (m := ws.length) (by omega) h.x
  have f2 := reach_of_eq (S := S) (m := vs.length) (by omega) g.x
  rw [← hl] at p2 d2 f2
  have c := common_eq (S := S) (le_12 d1).1 (a := per ws.length xs) (b := per ws.length ys) (by have := (le_12 d1).2; omega) (by have := (le_12 d2).2; omega)
  have hb : ∀ i : Int, ((-(2 ^ 64) < (2 : Int) ∧ (2 : Int) < 2 ^ 64) ∨ (-(2 ^ 64) < i ∧ i < 2 ^ 64)) := fun i => .inl ⟨by decide, by decide⟩
  have em : (if (far ws.length ys : Int) > (far ws.length xs : Int) then (far ws.length ys : Int) else (far ws.length xs : Int)) = ((max (far ws.length xs) (far ws.length ys) : Nat) : Int) := by
    split <;> omega
  simp only [g_top_of, semFn_eq, sem_top_of, startE, List.map_cons, List.map_nil, List.length_cons, List.length_nil, List.replicate, List.cons_append, List.nil_append, sSeq_eq, sAsg_eq, semCall_eq, semCons_eq, semNil_eq, sem2_eq, semVar_eq, semC_eq, List.getElem?_cons_zero, List.getElem?_cons_succ, bind_ok, planD_ix0, planD_ix1, bLen_tup, ← hl, p1, p2, f1, f2, c, if_true, toS_ok, gNm_eq, optS_some, seqS_nx, sRet_eq, List.set_cons_succ, List.set_cons_zero, bMax, opMul_int, hb, em, opAdd_int, finR_rt]
  simp [topN]
noncomputable abbrev ptB : SemS := (sSeq (sPar [4, 5] (semCons (semCall (fun ds S => if ds.length = 2 then g_board_of ds S else .no) (semCons (semVar 0) (semCons (semVar 2) semNil))) (semCons (semCall (fun ds S => if ds.length = 2 then g_board_of ds S else .no) (semCons (semVar 1) (semCons (semVar 2) semNil))) semNil))) ptRows)
theorem parted_eq {ws vs : List D} {xs ys : List Deed} {S : Sto} (h : Pln ws xs) (g : Pln vs ys) (hl : ws.length = vs.length) (ht : topN ws.length xs ys ≤ 10000) : g_parted [planD ws xs, planD vs ys] S = .ok (optD (partD ws xs vs ys (topN ws.length xs ys))) S := by
  have w1 := h.w1
  have h1 := top_of_eq (S := S) h g hl
  have e2 : g_parted [planD ws xs, planD vs ys] S = finR (sSeq (sFor (semArg bRange2 (semCons (semC (.int 1)) (semCons (sem2 opAdd (semCall (fun ds S => if ds.length = 2 then g_top_of ds S else .no) (semCons (semVar 0) (semCons (semVar 1) semNil))) (semC (.int 1))) semNil))) (gNm 2) ptB) (sRet (semC .non)) [some (planD ws xs), some (planD vs ys), none, none, none, none, none] S) := rfl
  have hit : semArg bRange2 (semCons (semC (.int 1)) (semCons (sem2 opAdd (semCall (fun ds S => if ds.length = 2 then g_top_of ds S else .no) (semCons (semVar 0) (semCons (semVar 1) semNil))) (semC (.int 1))) semNil)) [some (planD ws xs), some (planD vs ys), none, none, none, none, none] S = .ok (numsN (topN ws.length xs ys)) S := by
    simp [h1, range_nums (n := topN ws.length xs ys) (by omega)]
  rw [e2, sSeq_eq, sFor_ok hit]
  rcases sLoop_ret (g := gNm 2) (fb := ptB) (S := S) (fun ρ => ∃ y2 y3 y4 y5 y6, ρ = [some (planD ws xs), some (planD vs ys), y2, y3, y4, y5, y6]) (numP ws xs vs ys) (ds := numsN (topN ws.length xs ys)) ⟨_, _, _, _, _, rfl⟩ (fun d hd ρ ⟨y2, y3, y4, y5, y6, hρ⟩ => by
    obtain ⟨n, rfl, n0, n1⟩ := numsN_mem hd
    subst hρ
    refine ⟨_, rfl, ?_⟩
    have b1 := h.board (n := n) (S := S) (by omega) (by omega)
    have b2 := g.board (n := n) (S := S) (by omega) (by omega)
    have e3 : ptB [some (planD ws xs), some (planD vs ys), some (.int n), y3, y4, y5, y6] S = ptRows [some (planD ws xs), some (planD vs ys), some (.int n), y3, some (bd ws xs n), some (bd vs ys n), y6] S := by
      simp [-ptRows, b1, b2]
    show (_ ∧ ∃ ρ2, ptB [some (planD ws xs), some (planD vs ys), some (.int n), y3, y4, y5, y6] S = .nx ρ2 S ∧ _) ∨ ∃ v, _ ∧ ptB [some (planD ws xs), some (planD vs ys), some (.int n), y3, y4, y5, y6] S = .rt v S
    rw [e3]
    have e4 : bd vs ys n = brd (bdT vs ys n) ws.length n := by rw [hl]; rfl
    rw [e4]
    have e5 : numP ws xs vs ys (.int (n : Nat)) = (upsN ws.length).findSome? (rowP (bdT ws xs n) (bdT vs ys n) n) := rfl
    rcases pt_rows (T := bdT ws xs n) (U := bdT vs ys n) (m := ws.length) (n := n) (S := S) (x0 := some (planD ws xs)) (x1 := some (planD vs ys)) (x3 := y3) (x6 := y6) (by omega) (by omega) with ⟨h1, z3, z6, h2⟩ | ⟨v, h1, h2⟩
    · exact .inl ⟨e5.trans h1, _, h2, _, _, _, _, _, rfl⟩
    · exact .inr ⟨v, e5.trans h1, h2⟩) with ⟨h1, ρ', h2, y2, y3, y4, y5, y6, rfl⟩ | ⟨v, h1, h2⟩
  · rw [h2, partD, h1]; rfl
  · rw [h2, partD, h1]; rfl
theorem partD_none {ws vs : List D} {xs ys : List Deed} {top : Nat} (hl : ws.length = vs.length) : partD ws xs vs ys top = none ↔ ∀ n, 1 ≤ n → n ≤ top → bd ws xs n = bd vs ys n := by
  unfold partD
  rw [List.findSome?_eq_none_iff]
  constructor
  · intro h n n0 n1
    have hn : D.int (n : Nat) ∈ numsN top := List.mem_map.mpr ⟨n - 1, List.mem_range.mpr (by omega), by congr 1; omega⟩
    have h1 := h _ hn
    have h1 : (upsN ws.length).findSome? (rowP (bdT ws xs n) (bdT vs ys n) n) = none := h1
    rw [List.findSome?_eq_none_iff] at h1
    have e4 : bd vs ys n = brd (bdT vs ys n) ws.length n := by rw [hl]; rfl
    rw [e4]
    refine brd_congr fun r c hr hc => ?_
    have h2 := h1 (.int (r : Nat)) (List.mem_map.mpr ⟨r, List.mem_range.mpr hr, rfl⟩)
    have h2 : (upsN n).findSome? (cellP (bdT ws xs n) (bdT vs ys n) n r) = none := h2
    rw [List.findSome?_eq_none_iff] at h2
    have h3 := h2 (.int (c : Nat)) (List.mem_map.mpr ⟨c, List.mem_range.mpr hc, rfl⟩)
    have h3 : (if bdT ws xs n r c = bdT vs ys n r c then none else some (D.tup [.int n, .int (r : Nat), .int (c : Nat)])) = none := h3
    split at h3
    · assumption
    · cases h3
  · intro h d hd
    obtain ⟨n, rfl, n0, n1⟩ := numsN_mem hd
    have e4 : bd vs ys n = brd (bdT vs ys n) ws.length n := by rw [hl]; rfl
    have h1 := h n n0 n1
    rw [e4] at h1
    have h2 := brd_inj.mp h1
    show (upsN ws.length).findSome? (rowP (bdT ws xs n) (bdT vs ys n) n) = none
    rw [List.findSome?_eq_none_iff]
    intro d hd
    obtain ⟨r, rfl, hr⟩ := upsN_mem hd
    show (upsN n).findSome? (cellP (bdT ws xs n) (bdT vs ys n) n r) = none
    rw [List.findSome?_eq_none_iff]
    intro d hd
    obtain ⟨c, rfl, hc⟩ := upsN_mem hd
    show (if bdT ws xs n r c = bdT vs ys n r c then none else _) = none
    rw [if_pos (h2 r c hr hc)]
end Sh
namespace Sh
open PySem L2 GB
/-! ### deeds that can be left out, exchanged -/
theorem per_dvd {m : Nat} : ∀ (xs : List Deed) (a k : Nat), xs.foldl (fun a x => Nat.lcm a (perD m x)) a ∣ k ↔ a ∣ k ∧ ∀ x ∈ xs, perD m x ∣ k
  | [], a, k => by simp
  | x :: xs, a, k => by
    rw [List.foldl_cons, per_dvd xs, Nat.lcm_dvd_iff]
    simp only [List.mem_cons, forall_eq_or_imp]
    constructor
    · rintro ⟨⟨h1, h2⟩, h3⟩; exact ⟨h1, h2, h3⟩
    · rintro ⟨h1, h2, h3⟩; exact ⟨⟨h1, h2⟩, h3⟩
theorem per_sub {m : Nat} {xs ys : List Deed} (h : ∀ y ∈ ys, y ∈ xs) : per m ys ∣ per m xs := by
  refine (per_dvd ys 1 _).mpr ⟨Nat.one_dvd _, fun y hy => ?_⟩
  exact ((per_dvd xs 1 (per m xs)).mp (Nat.dvd_refl _)).2 y (h y hy)
theorem per_same {m : Nat} {xs ys : List Deed} (h : ∀ y, y ∈ ys ↔ y ∈ xs) : per m ys = per m xs := Nat.dvd_antisymm (per_sub fun y hy => (h y).mp hy) (per_sub fun y hy => (h y).mpr hy)
theorem far_from {m : Nat} : ∀ (xs : List Deed) (a : Nat), xs.foldl (fun a x => a + farD m x) a = a + (xs.map (farD m)).sum
  | [], a => by simp
  | x :: xs, a => by rw [List.foldl_cons, far_from xs, List.map_cons, List.sum_cons]; omega
theorem far_sum {m : Nat} (xs : List Deed) : far m xs = (xs.map (farD m)).sum := by rw [far, far_from]; omega
theorem farD_le {m : Nat} (hm : m ≤ 4) {x : Deed} (hx : x.Ok) : farD m x ≤ 6 := by
  cases x with
  | back s => simp [farD]
  | turn s k q => simp [farD]
  | move s b i =>
    obtain ⟨h1, h2, h3⟩ := hx
    cases s <;> cases b
    · show i.natAbs ≤ 6; omega
    · exact Nat.zero_le _
    · exact Nat.zero_le _
    · show i.natAbs * (m - 1) ≤ 6
      calc i.natAbs * (m - 1) ≤ 2 * 3 := Nat.mul_le_mul (by omega) (by omega)
        _ = 6 := rfl
theorem far_le {m : Nat} (hm : m ≤ 4) {xs : List Deed} (hx : ∀ x ∈ xs, x.Ok) : far m xs ≤ 6 * xs.length := by
  rw [far_sum]
  induction xs with
  | nil => simp
  | cons x xs ih =>
    rw [List.map_cons, List.sum_cons, List.length_cons]
    have := farD_le hm (hx x (List.mem_cons_self ..))
    have := ih fun y hy => hx y (List.mem_cons_of_mem _ hy)
    omega
/-- without one; with two exchanged -/
def wo (xs : List Deed) (i : Nat) : List Deed := xs.take i ++ xs.drop (i + 1)
def xch (xs : List Deed) (i : Nat) : List Deed := xs.take i ++ ((xs.drop i).take 2).reverse ++ xs.drop (i + 2)
theorem wo_mem {xs : List Deed} {i : Nat} : ∀ y ∈ wo xs i, y ∈ xs := fun y hy => by
  rcases List.mem_append.mp hy with h | h
  · exact List.mem_of_mem_take h
  · exact List.mem_of_mem_drop h
theorem xch_mem {xs : List Deed} {i : Nat} (y : Deed) : y ∈ xch xs i ↔ y ∈ xs := by
  unfold xch
  have e : xs = xs.take i ++ ((xs.drop i).take 2 ++ (xs.drop i).drop 2) := by rw [List.take_append_drop, List.take_append_drop]
  conv => rhs; rw [e]
  simp [List.mem_append, or_assoc]
theorem xch_far {m : Nat} {xs : List Deed} {i : Nat} : far m (xch xs i) = far m xs := by
  have e : xs = xs.take i ++ ((xs.drop i).take 2 ++ (xs.drop i).drop 2) := by rw [List.take_append_drop, List.take_append_drop]
  rw [far_sum, far_sum]
  conv => rhs; rw [e]
  unfold xch
  simp only [List.map_append, List.sum_append, List.map_reverse, List.sum_reverse, List.drop_drop]
  omega
theorem wo_far {m : Nat} {xs : List Deed} {i : Nat} : far m (wo xs i) ≤ far m xs := by
  have e : xs = xs.take i ++ ((xs.drop i).take 1 ++ (xs.drop i).drop 1) := by rw [List.take_append_drop, List.take_append_drop]
  rw [far_sum, far_sum]
  conv => rhs; rw [e]
  unfold wo
  simp only [List.map_append, List.sum_append, List.drop_drop]
  omega
def topS (m : Nat) (xs : List Deed) : Nat := 2 * far m xs + 2 * per m xs
theorem lcm_of_dvd {a b : Nat} (h : b ∣ a) : Nat.lcm a b = a := Nat.dvd_antisymm (Nat.lcm_dvd (Nat.dvd_refl _) h) (Nat.dvd_lcm_left _ _)
theorem top_wo {m i : Nat} {xs : List Deed} : topN m xs (wo xs i) = topS m xs := by
  unfold topN topS
  rw [lcm_of_dvd (per_sub wo_mem), Nat.max_eq_left wo_far]
theorem top_xch {m i : Nat} {xs : List Deed} : topN m xs (xch xs i) = topS m xs := by
  unfold topN topS
  rw [lcm_of_dvd (per_sub fun y hy => (xch_mem y).mp hy), xch_far, Nat.max_self]
theorem topS_le {ws : List D} {xs : List Deed} (h : Pln ws xs) : topS ws.length xs ≤ 12 * xs.length + 24 := by
  have := far_le h.w1 h.x
  have := (le_12 (per_12 h.w0 h.w1 h.x)).2
  unfold topS; omega
theorem Pln.sub {ws : List D} {xs ys : List Deed} (h : Pln ws xs) (hs : ∀ y ∈ ys, y ∈ xs) : Pln ws ys := ⟨h.w, h.w0, h.w1, fun y hy => h.x y (hs y hy)⟩
/-- the same boards of up to so many slices -/
def sameB (ws : List D) (xs : List Deed) (vs : List D) (ys : List Deed) (top : Nat) : Bool := (List.range top).all fun t => (List.range ws.length).all fun r => (List.range (t + 1)).all fun c => decide (bdT ws xs (t + 1) r c = bdT vs ys (t + 1) r c)
theorem sameB_iff {ws vs : List D} {xs ys : List Deed} {top : Nat} (hl : ws.length = vs.length) : sameB ws xs vs ys top = true ↔ ∀ n, 1 ≤ n → n ≤ top → bd ws xs n = bd vs ys n := by
  unfold sameB
  simp only [List.all_eq_true, List.mem_range, decide_eq_true_eq]
  constructor
  · intro h n n0 n1
    have e4 : bd vs ys n = brd (bdT vs ys n) ws.length n := by rw [hl]; rfl
    rw [e4]
    refine brd_congr fun r c hr hc => ?_
    have := h (n - 1) (by omega) r hr c (by omega)
    have e : n - 1 + 1 = n := by omega
    rwa [e] at this
  · intro h t ht r hr c hc
    have h1 := h (t + 1) (by omega) (by omega)
    have e4 : bd vs ys (t + 1) = brd (bdT vs ys (t + 1)) ws.length (t + 1) := by rw [hl]; rfl
    rw [e4] at h1
    exact brd_inj.mp h1 r c hr hc
theorem none_same {ws vs : List D} {xs ys : List Deed} {top : Nat} (hl : ws.length = vs.length) : isNone (optD (partD ws xs vs ys top)) = sameB ws xs vs ys top := by
  rw [Bool.eq_iff_iff, sameB_iff hl, ← partD_none hl]
  cases h : partD ws xs vs ys top with
  | none => simp [optD, isNone]
  | some d =>
    have : d ≠ .non := by
      intro e
      subst e
      unfold partD at h
      obtain ⟨n, hn, h⟩ := List.exists_of_findSome?_eq_some h
      obtain ⟨n, rfl, _, _⟩ := numsN_mem hn
      have h : (upsN ws.length).findSome? (rowP (bdT ws xs n) (bdT vs ys n) n) = some .non := h
      obtain ⟨r, hr, h⟩ := List.exists_of_findSome?_eq_some h
      obtain ⟨r, rfl, _⟩ := upsN_mem hr
      have h : (upsN n).findSome? (cellP (bdT ws xs n) (bdT vs ys n) n r) = some .non := h
      obtain ⟨c, hc, h⟩ := List.exists_of_findSome?_eq_some h
      obtain ⟨c, rfl, _⟩ := upsN_mem hc
      have h : (if bdT ws xs n r c = bdT vs ys n r c then none else some (D.tup [.int n, .int (r : Nat), .int (c : Nat)])) = some .non := h
      split at h <;> cases h
    simp [optD]
    cases d <;> first | rfl | exact absurd rfl this
theorem map_take (xs : List Deed) (i : Nat) : (xs.map Deed.d).take i = (xs.take i).map Deed.d := by rw [List.map_take]
theorem map_drop (xs : List Deed) (i : Nat) : (xs.map Deed.d).drop i = (xs.drop i).map Deed.d := by rw [List.map_drop]
theorem sl_take {xs : List D} {i : Nat} {S : Sto} (h : i ≤ xs.length) : opSl (.tup xs) none (some (i : Nat)) S = .ok (.tup (xs.take i)) S := by
  have := cut_take (xs := xs) (i := (i : Nat)) (by omega) (by omega)
  simp only [Int.toNat_natCast] at this
  show R.ok (D.tup (cutD xs none (some (i : Nat)))) S = _
  rw [this]
theorem sl_drop {xs : List D} {i : Nat} {S : Sto} : opSl (.tup xs) (some (i : Nat)) none S = .ok (.tup (xs.drop i)) S := by
  by_cases h : i ≤ xs.length
  · have := cut_drop (xs := xs) (i := (i : Nat)) (by omega) (by omega)
    simp only [Int.toNat_natCast] at this
    show R.ok (D.tup (cutD xs (some (i : Nat)) none)) S = _
    rw [this]
  · have e : HT.sIx xs.length 0 (some ((i : Nat) : Int)) = xs.length := by
      show (if ((i : Nat) : Int) < 0 then (((i : Nat) : Int) + (xs.length : Int)).toNat else min ((i : Nat) : Int).toNat xs.length) = _
      rw [if_neg (by omega)]; omega
    show R.ok (D.tup (cutD xs (some (i : Nat)) none)) S = _
    unfold cutD
    rw [e, List.drop_length, List.take_nil, List.drop_eq_nil_of_le (by omega)]
theorem sl_mid {xs : List D} {i j : Nat} {S : Sto} (h : i ≤ xs.length) (hj : i ≤ j) : opSl (.tup xs) (some (i : Nat)) (some (j : Nat)) S = .ok (.tup ((xs.drop i).take (j - i))) S := by
  have e1 : HT.sIx xs.length 0 (some ((i : Nat) : Int)) = i := by
    show (if ((i : Nat) : Int) < 0 then (((i : Nat) : Int) + (xs.length : Int)).toNat else min ((i : Nat) : Int).toNat xs.length) = _
    rw [if_neg (by omega)]; omega
  have e2 : HT.sIx xs.length xs.length (some ((j : Nat) : Int)) = min j xs.length := by
    show (if ((j : Nat) : Int) < 0 then (((j : Nat) : Int) + (xs.length : Int)).toNat else min ((j : Nat) : Int).toNat xs.length) = _
    rw [if_neg (by omega)]; omega
  show R.ok (D.tup (cutD xs (some (i : Nat)) (some (j : Nat)))) S = _
  unfold cutD
  rw [e1, e2]
  congr 2
  have : (xs.drop i).length = xs.length - i := by simp
  by_cases hj2 : j ≤ xs.length
  · rw [Nat.min_eq_left hj2]
  · rw [Nat.min_eq_right (by omega), List.take_of_length_le (by omega), List.take_of_length_le (by omega)]
theorem cat_tup {a b : List D} {S : Sto} (h : a.length + b.length ≤ 16777216) : opAdd (.tup a) (.tup b) S = .ok (.tup (a ++ b)) S := by
  simp only [opAdd, kl, h, if_true]
theorem wo_sem {xs : List Deed} {i : Nat} {S : Sto} (h : i < xs.length) (hl : xs.length ≤ 1000) :
    (opSl (.tup (xs.map Deed.d)) none (some (i : Nat)) S).bind (fun a S1 => (opSl (.tup (xs.map Deed.d)) (some ((i : Nat) + 1)) none S1).bind fun b S2 => opAdd a b S2) = .ok (.tup ((wo xs i).map Deed.d)) S := by
  rw [sl_take (by simp; omega), bind_ok]
  have := sl_drop (xs := xs.map Deed.d) (i := i + 1) (S := S)
  rw [Int.natCast_add, Int.natCast_one] at this
  rw [this, bind_ok, cat_tup (by simp; omega), wo, List.map_append, map_take, map_drop]
theorem without_eq {ws : List D} {xs : List Deed} {i : Nat} {S : Sto} (h : i < xs.length) (hl : xs.length ≤ 1000) : g_without [planD ws xs, .int (i : Nat)] S = .ok (planD ws (wo xs i)) S := by
  have e := wo_sem (S := S) h hl
  simp only [g_without, semFn_eq, sem_without, startE, List.map_cons, List.map_nil, List.length_cons, List.length_nil, List.replicate, List.cons_append, List.nil_append, sRet_eq, semTup_eq, semCons_eq, semNil_eq, sem2_eq, semVar_eq, semC_eq, List.getElem?_cons_zero, List.getElem?_cons_succ, bind_ok, planD_ix0, planD_ix1, semSl, OEx.run, opAdd_int, e]
  simp [planD]
theorem drop_two {xs : List Deed} {i : Nat} (h : i + 1 < xs.length) : (xs.drop i).take 2 = [xs[i], xs[i + 1]] := by
  rw [List.drop_eq_getElem_cons (by omega), List.drop_eq_getElem_cons (by omega)]; rfl
theorem atI_deed {xs : List Deed} {i : Nat} (h : i < xs.length) : atI (xs.map Deed.d) ((i : Nat) : Int) = some (xs[i]).d := atI_map (f := Deed.d) (ss := xs) (i := ((i : Nat) : Int)) (by omega) (by simp [h])
theorem exchanged_eq {ws : List D} {xs : List Deed} {i : Nat} {S : Sto} (h : i + 1 < xs.length) (hl : xs.length ≤ 1000) : g_exchanged [planD ws xs, .int (i : Nat)] S = .ok (planD ws (xch xs i)) S := by
  have a0 := atI_deed (xs := xs) (i := i) (by omega)
  have a1 := atI_deed (xs := xs) (i := i + 1) h
  rw [Int.natCast_add, Int.natCast_one] at a1
  have d2 := fun S => sl_drop (xs := xs.map Deed.d) (i := i + 2) (S := S)
  have e2 : (((i + 2 : Nat)) : Int) = (i : Nat) + 2 := by omega
  simp only [e2] at d2
  have t := fun S => sl_take (xs := xs.map Deed.d) (i := i) (S := S) (by simp; omega)
  have c1 : ∀ S, opAdd (.tup ((xs.map Deed.d).take i)) (.tup [xs[i + 1].d, xs[i].d]) S = .ok (.tup ((xs.map Deed.d).take i ++ [xs[i + 1].d, xs[i].d])) S := fun S => cat_tup (by simp; omega)
  have c2 : ∀ S, opAdd (.tup ((xs.map Deed.d).take i ++ [xs[i + 1].d, xs[i].d])) (.tup ((xs.map Deed.d).drop (i + 2))) S = .ok (.tup ((xs.map Deed.d).take i ++ [xs[i + 1].d, xs[i].d] ++ (xs.map Deed.d).drop (i + 2))) S := fun S => cat_tup (by simp; omega)
  simp only [g_exchanged, semFn_eq, sem_exchanged, startE, List.map_cons, List.map_nil, List.length_cons, List.length_nil, List.replicate, List.cons_append, List.nil_append, sSeq_eq, sAsg_eq, gNm_eq, List.set_cons_succ, List.set_cons_zero, optS_some, seqS_nx, toS_ok, sRet_eq, semTup_eq, semCons_eq, semNil_eq, sem2_eq, semVar_eq, semC_eq, List.getElem?_cons_zero, List.getElem?_cons_succ, bind_ok, planD_ix0, planD_ix1, semSl, OEx.run, opAdd_int, t, d2, opIx_tup, a0, a1, kl]
  simp only [List.length_cons, List.length_nil, show (0 + 1 + 1 ≤ 16777216) from by omega, if_true, bind_ok, c1, c2, toS_ok, finR_rt]
  have e3 : (xs.map Deed.d).take i ++ [xs[i + 1].d, xs[i].d] ++ (xs.map Deed.d).drop (i + 2) = (xch xs i).map Deed.d := by
    unfold xch
    rw [drop_two h, map_take, map_drop]; simp
  rw [e3]; rfl
def ixOf : D → Nat
  | .int i => i.toNat
  | _ => 0
def needL (ws : List D) (xs : List Deed) : List D := (upsN xs.length).filter fun d => sameB ws xs ws (wo xs (ixOf d)) (topS ws.length xs)
def excL (ws : List D) (xs : List Deed) : List D := (upsN (xs.length - 1)).filter fun d => sameB ws xs ws (xch xs (ixOf d)) (topS ws.length xs)
theorem pln_isPlan {ws : List D} {xs : List Deed} (h : Pln ws xs) (hl : xs.length ≤ 6) {S : Sto} : g_need_plan [planD ws xs] S = .ok .non S := by
  have w0 := h.w0
  have w1 := h.w1
  have h1 := need_plan_eq (S := S) (plan_val h.w (by omega) (by omega) h.x) (by omega)
  rw [plan_isPlan h.w h.w0 h.w1 hl h.x] at h1
  simpa using h1
theorem needless_eq {ws : List D} {xs : List Deed} {S : Sto} (h : Pln ws xs) (hl : xs.length ≤ 6) : g_needless [planD ws xs] S = .ok (.lst (needL ws xs)) S := by
  have hn := pln_isPlan (S := S) h hl
  have ht := topS_le h
  have key := cLoop_filter (i := 1) (ρ := [some (planD ws xs), none]) (S := S) (ft := sem2 opIs (semCall (fun ds S => if ds.length = 2 then g_parted ds S else .no) (semCons (semVar 0) (semCons (semCall (fun ds S => if ds.length = 2 then g_without ds S else .no) (semCons (semVar 0) (semCons (semVar 1) semNil))) semNil))) (semC .non)) (fe := semVar 1) (f := fun d => d) (p := fun d => sameB ws xs ws (wo xs (ixOf d)) (topS ws.length xs)) (ds := upsN xs.length) (fun d hd => by
    obtain ⟨i, rfl, hi⟩ := upsN_mem hd
    have h1 := without_eq (ws := ws) (S := S) hi (by omega)
    have h2 := parted_eq (S := S) h (h.sub (ys := wo xs i) wo_mem) rfl (by rw [top_wo]; omega)
    rw [top_wo] at h2
    have h3 : sameB ws xs ws (wo xs (ixOf (.int (i : Nat)))) (topS ws.length xs) = isNone (optD (partD ws xs ws (wo xs i) (topS ws.length xs))) := (none_same rfl).symm
    simp [h1, h2, h3, opIs]) (fun d hd _ => by simp)
  rw [List.map_id'] at key
  have hu : (upsN xs.length).length ≤ 16777216 := by simp [upsN]; omega
  have hw : wipeE [some (planD ws xs), none] [1] = [some (planD ws xs), none] := rfl
  have e : g_needless [planD ws xs] S = finR (sSeq (sExpr (semCall (fun ds S => if ds.length = 1 then g_need_plan ds S else .no) (semCons (semVar 0) semNil))) (sRet (semLc finD (semArg bRange1 (semCons (semCall bLen (semCons (sem2 opIx (semVar 0) (semC (.int 1))) semNil)) semNil)) [1] (gNm 1) (sem2 opIs (semCall (fun ds S => if ds.length = 2 then g_parted ds S else .no) (semCons (semVar 0) (semCons (semCall (fun ds S => if ds.length = 2 then g_without ds S else .no) (semCons (semVar 0) (semCons (semVar 1) semNil))) semNil))) (semC .non)) (semVar 1))) [some (planD ws xs), none] S) := rfl
  have er : bRange1 [.int (xs.length : Nat)] S = .ok (upsN xs.length) S := range_ups (by omega)
  rw [e, sSeq_eq, sExpr_eq, semCall_eq, semCons_eq]
  simp only [semVar_eq, List.getElem?_cons_zero, semNil_eq, bind_ok, List.length_cons, List.length_nil, if_true, hn, toS_ok, seqS_nx, sRet_eq, semLc_eq, semArg_eq, semCons_eq, semCall_eq, sem2_eq, semC_eq, planD_ix1, bLen_tup, List.length_map, er, kl, hu, hw, key, finD_eq, finR_rt]
  rfl
theorem exchangeable_eq {ws : List D} {xs : List Deed} {S : Sto} (h : Pln ws xs) (hl : xs.length ≤ 6) : g_exchangeable [planD ws xs] S = .ok (.lst (excL ws xs)) S := by
  have hn := pln_isPlan (S := S) h hl
  have ht := topS_le h
  have key := cLoop_filter (i := 1) (ρ := [some (planD ws xs), none]) (S := S) (ft := sem2 opIs (semCall (fun ds S => if ds.length = 2 then g_parted ds S else .no) (semCons (semVar 0) (semCons (semCall (fun ds S => if ds.length = 2 then g_exchanged ds S else .no) (semCons (semVar 0) (semCons (semVar 1) semNil))) semNil))) (semC .non)) (fe := semVar 1) (f := fun d => d) (p := fun d => sameB ws xs ws (xch xs (ixOf d)) (topS ws.length xs)) (ds := upsN (xs.length - 1)) (fun d hd => by
    obtain ⟨i, rfl, hi⟩ := upsN_mem hd
    have h1 := exchanged_eq (ws := ws) (xs := xs) (i := i) (S := S) (by omega) (by omega)
    have h2 := parted_eq (S := S) h (h.sub (ys := xch xs i) fun y hy => (xch_mem y).mp hy) rfl (by rw [top_xch]; omega)
    rw [top_xch] at h2
    have h3 : sameB ws xs ws (xch xs (ixOf (.int (i : Nat)))) (topS ws.length xs) = isNone (optD (partD ws xs ws (xch xs i) (topS ws.length xs))) := (none_same rfl).symm
    simp [h1, h2, h3, opIs]) (fun d hd _ => by simp)
  rw [List.map_id'] at key
  have hu : (upsN (xs.length - 1)).length ≤ 16777216 := by simp [upsN]; omega
  have hw : wipeE [some (planD ws xs), none] [1] = [some (planD ws xs), none] := rfl
  have e : g_exchangeable [planD ws xs] S = finR (sSeq (sExpr (semCall (fun ds S => if ds.length = 1 then g_need_plan ds S else .no) (semCons (semVar 0) semNil))) (sRet (semLc finD (semArg bRange1 (semCons (sem2 opSub (semCall bLen (semCons (sem2 opIx (semVar 0) (semC (.int 1))) semNil)) (semC (.int 1))) semNil)) [1] (gNm 1) (sem2 opIs (semCall (fun ds S => if ds.length = 2 then g_parted ds S else .no) (semCons (semVar 0) (semCons (semCall (fun ds S => if ds.length = 2 then g_exchanged ds S else .no) (semCons (semVar 0) (semCons (semVar 1) semNil))) semNil))) (semC .non)) (semVar 1))) [some (planD ws xs), none] S) := rfl
  have er : bRange1 [.int ((xs.length : Nat) - 1)] S = .ok (upsN (xs.length - 1)) S := by
    rw [bRange1_ok (by omega)]
    have : (((xs.length : Nat) : Int) - 1).toNat = xs.length - 1 := by omega
    rw [this]; rfl
  rw [e, sSeq_eq, sExpr_eq, semCall_eq, semCons_eq]
  simp only [semVar_eq, List.getElem?_cons_zero, semNil_eq, bind_ok, List.length_cons, List.length_nil, if_true, hn, toS_ok, seqS_nx, sRet_eq, semLc_eq, semArg_eq, semCons_eq, semCall_eq, sem2_eq, semC_eq, planD_ix1, bLen_tup, List.length_map, opSub_int, er, kl, hu, hw, key, finD_eq, finR_rt]
  rfl
end Sh
namespace Sh
open PySem L2 GB
/-! ### the store's places kept; a law's cells -/
theorem getA {S : Sto} {i : Nat} {o : O} (h : S[i]? = some o) (G : Sto) : (S ++ G)[i]? = some o := by
  rw [List.getElem?_append_left (List.getElem?_eq_some_iff.mp h).1]; exact h
theorem setN {S : Sto} {i j : Nat} {o u : O} (h : S[i]? = some o) (n : j ≠ i) : (S.set j u)[i]? = some o := by
  rw [List.getElem?_set_ne n]; exact h
theorem setS {S : Sto} {i : Nat} {o u : O} (h : S[i]? = some o) : (S.set i u)[i]? = some u := by
  rw [List.getElem?_set_self (List.getElem?_eq_some_iff.mp h).1]
/-- the store has grown -/
def Grow (S S1 : Sto) : Prop := ∃ G, S1 = S ++ G
theorem Grow.refl (S : Sto) : Grow S S := ⟨[], by simp⟩
theorem Grow.trans {S S1 S2 : Sto} (h : Grow S S1) (g : Grow S1 S2) : Grow S S2 := by
  obtain ⟨G, rfl⟩ := h
  obtain ⟨G2, rfl⟩ := g
  exact ⟨G ++ G2, by simp⟩
theorem Grow.get {S S1 : Sto} (h : Grow S S1) {i : Nat} {o : O} (g : S[i]? = some o) : S1[i]? = some o := by
  obtain ⟨G, rfl⟩ := h
  exact getA g G
theorem Grow.st {k : Nat} {S S1 : Sto} (h : Grow S S1) (g : St k S) : St k S1 := by
  obtain ⟨G, rfl⟩ := h
  exact g.app G
theorem Pln.lbrd {ws : List D} {xs : List Deed} (h : Pln ws xs) {n : Nat} {S : Sto} (h0 : 0 < n) (h1 : n ≤ 10000) : ∃ S1, Grow S S1 ∧ g__law_board [planD ws xs, .int n] S = .ok (bd ws xs n) S1 := by
  obtain ⟨G, e⟩ := h.lboard (S := S) h0 h1
  exact ⟨_, ⟨G, rfl⟩, e⟩
theorem St.set {k j : Nat} {S : Sto} (h : St k S) (n : j ≠ k) (u : O) : St k (S.set j u) := by
  obtain ⟨a, b, h1, h2⟩ := h
  exact ⟨a, b, setN h1 n, h2⟩
theorem app_own {S : Sto} {s : Nat} {xs : List D} {d : D} (h : S[s]? = some (.lst xs)) (hl : xs.length < 16777216) : opApp (.own s) d S = .ok .non (S.set s (.lst (xs ++ [d]))) := by
  simp [opApp, h, hl]
theorem lst_own {S : Sto} {s : Nat} {xs : List D} (h : S[s]? = some (.lst xs)) : lstOf S (.own s) = some xs := by
  simp [lstOf, h]
theorem der_own {S : Sto} {s : Nat} {xs : List D} (h : S[s]? = some (.lst xs)) : der S (.own s) = .lst xs := by
  simp [der, lst_own h]
theorem upsN_succ (n : Nat) : upsN (n + 1) = upsN n ++ [.int (n : Nat)] := by
  simp [upsN, List.range_succ]
/-- the cells that a law walks over -/
theorem cells_it {ns : List Int} {sc : D} {S : Sto} (h : ScriptAt ns sc S) (hl : ns.length ≤ 63) (n : Int) : (opAdd (.lst [.int 0]) sc S).bind (fun x S1 => opSl x none (some n) S1) = .ok (.lst (cutD (.int 0 :: ns.map .int) none (some n))) S := by
  have e := h.lst
  have hadd : opAdd (.lst [.int 0]) sc S = .ok (.lst (.int 0 :: ns.map .int)) S := by
    have : ([D.int 0]).length + (ns.map D.int).length ≤ sizeLine := by rw [kl]; simp; omega
    rcases h with ⟨rfl, rfl⟩ | ⟨rfl, rfl⟩ <;> simp only [opAdd, lstOf, e] <;> simp [lstOf] <;> omega
  rw [hadd, bind_ok]; rfl
theorem cells_int {ns : List Int} {n : Int} : ∀ d ∈ cutD (.int 0 :: ns.map D.int) none (some n), ∃ i, d = .int i := by
  intro d hd
  rcases List.mem_cons.mp (List.mem_of_mem_drop (List.mem_of_mem_take hd)) with rfl | h
  · exact ⟨0, rfl⟩
  · obtain ⟨i, _, rfl⟩ := List.mem_map.mp h
    exact ⟨i, rfl⟩
theorem bd_ne {ws vs : List D} {xs ys : List Deed} {n : Nat} {S : Sto} (h : Pln ws xs) (g : Pln vs ys) (hn : n ≤ 10000) : ∃ b : Bool, opEq (bd ws xs n) (bd vs ys n) S = .ok (.bl b) S ∧ opNe (bd ws xs n) (bd vs ys n) S = .ok (.bl !b) S ∧ (b = true ↔ bd ws xs n = bd vs ys n) :=
  eq_pl (S := S) (d := bd ws xs n) (e := bd vs ys n) (bd_val (w := 10000) h.w (by have := h.w1; omega) hn) (bd_val (w := 10000) g.w (by have := g.w1; omega) hn) (by omega) (by omega) (brd_pl _ _ _) (brd_pl _ _ _)
end Sh
namespace Sh
open PySem L2 GB
/-! ### board, stages; numbers refused -/
theorem need_number_eq {w n : Nat} {v : D} {lo hi : Int} {S : Sto} (h : Val w n v) : g_need_number [v, .int lo, .int hi] S = if isNum v lo hi = true then .ok .non S else .ex ⟨"InvalidNumber", []⟩ S := by
  cases hp : isNum v lo hi <;> simp [g_need_number, semFn_eq, sem_need_number, startE, is_number_eq h, hp]
theorem board_eq {ws : List D} {xs : List Deed} {n : Nat} {S : Sto} (h : Pln ws xs) (hl : xs.length ≤ 6) (h0 : 0 < n) (h1 : n ≤ 60) : g_board [planD ws xs, .int (n : Nat)] S = .ok (bd ws xs n) S := by
  have hn := pln_isPlan (S := S) h hl
  have hb := h.board (n := n) (S := S) h0 (by omega)
  have hm := need_number_eq (w := 10) (n := 0) (v := .int (n : Nat)) (lo := 1) (hi := 60) (S := S) trivial
  have hi : isNum (.int (n : Nat)) 1 60 = true := by simp [isNum]; omega
  rw [if_pos hi] at hm
  simp [g_board, semFn_eq, sem_board, startE, hn, hm, hb]
theorem board_num {ws : List D} {xs : List Deed} {w m : Nat} {v : D} {S : Sto} (h : Pln ws xs) (hl : xs.length ≤ 6) (hv : Val w m v) (hn : isNum v 1 60 = false) : g_board [planD ws xs, v] S = .ex ⟨"InvalidNumber", []⟩ S := by
  have h1 := pln_isPlan (S := S) h hl
  have hm := need_number_eq (lo := 1) (hi := 60) (S := S) hv
  rw [if_neg (by rw [hn]; decide)] at hm
  simp [g_board, semFn_eq, sem_board, startE, h1, hm]
theorem board_plan {w m : Nat} {v u : D} {S : Sto} (hv : Val w m v) (hw : w ≤ 1000) (hp : isPlan v = false) : g_board [v, u] S = .ex ⟨"InvalidPlan", []⟩ S := by
  have h1 := need_plan_eq (S := S) hv hw
  rw [if_neg (by rw [hp]; decide)] at h1
  simp [g_board, semFn_eq, sem_board, startE, h1]
theorem stages_num {ws : List D} {xs : List Deed} {w m : Nat} {v : D} {S : Sto} (h : Pln ws xs) (hl : xs.length ≤ 6) (hv : Val w m v) (hn : isNum v 1 60 = false) : g_stages [planD ws xs, v] S = .ex ⟨"InvalidNumber", []⟩ S := by
  have h1 := pln_isPlan (S := S) h hl
  have hm := need_number_eq (lo := 1) (hi := 60) (S := S) hv
  rw [if_neg (by rw [hn]; decide)] at hm
  simp [g_stages, semFn_eq, sem_stages, startE, h1, hm]
theorem stages_plan {w m : Nat} {v u : D} {S : Sto} (hv : Val w m v) (hw : w ≤ 1000) (hp : isPlan v = false) : g_stages [v, u] S = .ex ⟨"InvalidPlan", []⟩ S := by
  have h1 := need_plan_eq (S := S) hv hw
  rw [if_neg (by rw [hp]; decide)] at h1
  simp [g_stages, semFn_eq, sem_stages, startE, h1]
/-- the boards deed by deed -/
def stL (ws : List D) (xs : List Deed) (n : Nat) : List D := (upsN (xs.length + 1)).map fun d => bd ws (xs.take (ixOf d)) n
theorem Pln.take {ws : List D} {xs : List Deed} (h : Pln ws xs) (i : Nat) : Pln ws (xs.take i) := h.sub fun y hy => List.mem_of_mem_take hy
theorem stages_eq {ws : List D} {xs : List Deed} {n : Nat} {S : Sto} (h : Pln ws xs) (hl : xs.length ≤ 6) (h0 : 0 < n) (h1 : n ≤ 60) : g_stages [planD ws xs, .int (n : Nat)] S = .ok (.own S.length) (S ++ [.lst (stL ws xs n)]) := by
  have hn := pln_isPlan (S := S) h hl
  have hm := need_number_eq (w := 10) (n := 0) (v := .int (n : Nat)) (lo := 1) (hi := 60) (S := S) trivial
  have hi : isNum (.int (n : Nat)) 1 60 = true := by simp [isNum]; omega
  rw [if_pos hi] at hm
  have key := cLoop_map (i := 2) (ρ := [some (planD ws xs), some (.int (n : Nat)), none]) (S := S) (fe := semCall (fun ds S => if ds.length = 2 then g_board_of ds S else .no) (semCons (semTup (semCons (sem2 opIx (semVar 0) (semC (.int 0))) (semCons (semSl (sem2 opIx (semVar 0) (semC (.int 1))) .no (.e (semVar 2))) semNil))) (semCons (semVar 1) semNil))) (f := fun d => bd ws (xs.take (ixOf d)) n) (ds := upsN (xs.length + 1)) (fun d hd => by
    obtain ⟨i, rfl, hi⟩ := upsN_mem hd
    have hb := (h.take i).board (n := n) (S := S) h0 (by omega)
    have hb : g_board_of [.tup [.tup ws, .tup ((xs.take i).map Deed.d)], .int (n : Nat)] S = .ok (bd ws (xs.take i) n) S := hb
    have ht := sl_take (xs := xs.map Deed.d) (i := i) (S := S) (by simp; omega)
    rw [map_take] at ht
    simp only [semCall_eq, semCons_eq, semNil_eq, semTup_eq, sem2_eq, semVar_eq, semC_eq, semSl, OEx.run, List.set_cons_succ, List.set_cons_zero, List.getElem?_cons_zero, List.getElem?_cons_succ, bind_ok, planD_ix0, planD_ix1, ht, List.length_cons, List.length_nil, kl, show (0 + 1 + 1 ≤ 16777216) from by omega, if_true, hb, ixOf, Int.toNat_natCast])
  have hu : (upsN (xs.length + 1)).length ≤ 16777216 := by simp [upsN]; omega
  have hw : wipeE [some (planD ws xs), some (.int (n : Nat)), none] [2] = [some (planD ws xs), some (.int (n : Nat)), none] := rfl
  have er : bRange1 [.int ((xs.length : Nat) + 1)] S = .ok (upsN (xs.length + 1)) S := by
    have := range_ups (n := xs.length + 1) (S := S) (by omega)
    rw [Int.natCast_add, Int.natCast_one] at this
    exact this
  have e : g_stages [planD ws xs, .int (n : Nat)] S = finR (sSeq (sExpr (semCall (fun ds S => if ds.length = 1 then g_need_plan ds S else .no) (semCons (semVar 0) semNil))) (sSeq (sExpr (semCall (fun ds S => if ds.length = 3 then g_need_number ds S else .no) (semCons (semVar 1) (semCons (semC (.int 1)) (semCons (semC (.int (60))) semNil))))) (sRet (semLc finO (semArg bRange1 (semCons (sem2 opAdd (semCall bLen (semCons (sem2 opIx (semVar 0) (semC (.int 1))) semNil)) (semC (.int 1))) semNil)) [2] (gNm 2) (semC (.bl true)) (semCall (fun ds S => if ds.length = 2 then g_board_of ds S else .no) (semCons (semTup (semCons (sem2 opIx (semVar 0) (semC (.int 0))) (semCons (semSl (sem2 opIx (semVar 0) (semC (.int 1))) .no (.e (semVar 2))) semNil))) (semCons (semVar 1) semNil)))))) [some (planD ws xs), some (.int (n : Nat)), none] S) := rfl
  rw [e]
  simp only [sSeq_eq, sExpr_eq, semCall_eq, semCons_eq, semVar_eq, semC_eq, List.getElem?_cons_zero, List.getElem?_cons_succ, semNil_eq, bind_ok, List.length_cons, List.length_nil, if_true, hn, hm, toS_ok, seqS_nx, sRet_eq, semLc_eq, semArg_eq, sem2_eq, planD_ix1, bLen_tup, List.length_map, opAdd_int, er, kl, hu, hw]
  rw [key]
  rfl
theorem stL_val {ws : List D} {xs : List Deed} {n : Nat} (h : Pln ws xs) (hl : xs.length ≤ 6) (hn : n ≤ 60) : Val 60 3 (.lst (stL ws xs n)) ∧ pl (.lst (stL ws xs n)) = true := by
  refine ⟨⟨by simp [stL, upsN]; omega, fun x hx => ?_⟩, ?_⟩
  · obtain ⟨d, _, rfl⟩ := List.mem_map.mp hx
    exact bd_val h.w (by have := h.w1; omega) hn
  · rw [pl, pls_all, List.all_eq_true]
    intro x hx
    obtain ⟨d, _, rfl⟩ := List.mem_map.mp hx
    exact brd_pl _ _ _
theorem stL_last {ws : List D} {xs : List Deed} {n : Nat} : atI (stL ws xs n) (-1) = some (bd ws xs n) := by
  have hlen : (stL ws xs n).length = xs.length + 1 := by simp [stL, upsN]
  have e1 : ixN (xs.length + 1) (-1) = some xs.length := by
    unfold ixN
    rw [if_neg (by omega), if_pos (by omega)]
    congr 1; omega
  unfold atI
  rw [hlen, e1]
  have hu : (upsN (xs.length + 1))[xs.length]? = some (.int (xs.length : Nat)) := by simp [upsN]
  show (stL ws xs n)[xs.length]? = _
  rw [stL, List.getElem?_map, hu]
  simp [ixOf]
/-- a list in the store equals another -/
theorem own_same {S : Sto} {f s w m : Nat} {L : List D} (hf : S[f]? = some (.lst L)) (hs : S[s]? = some (.lst L)) (hv : Val w m (.lst L)) (hm : m ≤ 60) (hp : pl (.lst L) = true) : opNe (.own f) (.own s) S = .ok (.bl false) S := by
  have hd := der_own hs
  have hd2 := der_own hf
  obtain ⟨b, _, h2, h3⟩ := eq_pl (S := S) (d := .own f) (e := .own s) (w := w) (v := w) (n := m) (m := m) (by rw [hd2]; exact hv) (by rw [hd]; exact hv) hm hm (by rw [hd2]; exact hp) (by rw [hd]; exact hp)
  obtain rfl : b = true := h3.mpr (by rw [hd, hd2])
  exact h2
/-- a board that is written out -/
theorem brd_lit {T : Nat → Nat → Nat} {m n : Nat} {ls : List (List Nat)} (h : ((List.range m).map fun r => (List.range n).map (T r)) = ls) : brd T m n = .tup (ls.map fun l => .str (tx l)) := by
  subst h
  unfold brd linesL lineS
  rw [List.map_map]; rfl
theorem brd_ne_self (T : Nat → Nat → Nat) {m n w : Nat} {S : Sto} (h : Val w 2 (brd T m n)) : opNe (brd T m n) (brd T m n) S = .ok (.bl false) S ∧ opEq (brd T m n) (brd T m n) S = .ok (.bl true) S :=
  opNe_self (w := w) (n := 2) (xs := linesL T m n) h (by omega)
theorem bd_self {ws : List D} {xs : List Deed} {n : Nat} {S : Sto} (h : Pln ws xs) (hn : n ≤ 10000) : opNe (bd ws xs n) (bd ws xs n) S = .ok (.bl false) S ∧ opEq (bd ws xs n) (bd ws xs n) S = .ok (.bl true) S :=
  brd_ne_self _ (bd_val (w := 10000) h.w (by have := h.w1; omega) hn)
end Sh
namespace Sh
open PySem L2 GB TL
/-! ### plans as texts -/
def istr (i : Int) : Str := toString i
def nums : Deed → List Int
  | .back _ => [] | .move _ _ i => [i] | .turn _ k q => [k, q]
def partsOf (x : Deed) : List Str := [sd x.side, wordOf x] ++ (nums x).map istr
def dline (x : Deed) : Str := Txt.join " " (partsOf x)
def allDeeds : List Deed := [.back true, .back false] ++ ([true, false].flatMap fun s => [true, false].flatMap fun b => [-2, -1, 1, 2].map fun i => Deed.move s b i) ++
  ([true, false].flatMap fun s => [(1, 0), (2, 0), (2, 1), (3, 0), (3, 1), (3, 2)].map fun z => Deed.turn s z.1 z.2)
theorem all_deeds {x : Deed} (h : x.Ok) : x ∈ allDeeds := by
  have e : ∀ a : Bool, a = true ∨ a = false := by decide
  cases x with
  | back s => rcases e s with rfl | rfl <;> simp [allDeeds]
  | move s b i =>
    obtain ⟨h1, h2, h3⟩ := h
    have : i = -2 ∨ i = -1 ∨ i = 1 ∨ i = 2 := by omega
    rcases this with rfl | rfl | rfl | rfl <;> rcases e s with rfl | rfl <;> rcases e b with rfl | rfl <;> simp [allDeeds]
  | turn s k q =>
    obtain ⟨h1, h2, h3, h4⟩ := h
    have : (k = 1 ∧ q = 0) ∨ (k = 2 ∧ q = 0) ∨ (k = 2 ∧ q = 1) ∨ (k = 3 ∧ q = 0) ∨ (k = 3 ∧ q = 1) ∨ (k = 3 ∧ q = 2) := by omega
    rcases this with ⟨rfl, rfl⟩ | ⟨rfl, rfl⟩ | ⟨rfl, rfl⟩ | ⟨rfl, rfl⟩ | ⟨rfl, rfl⟩ | ⟨rfl, rfl⟩ <;> rcases e s with rfl | rfl <;> simp [allDeeds]
def NUM : List Str := ["-2", "-1", "0", "1", "2", "3"]
def okDeed (x : Deed) : Bool := ((partsOf x).all fun p => decide (32 ∉ tl p) && decide (p.length ≤ 6) && PyData.strOk p) && (decide (10 ∉ tl (dline x)) && (decide ((dline x).length ≤ 30) && ((nums x).all fun i => decide (istr i ∈ NUM) && decide (PySem.intText? (istr i) = some i) && decide ((istr i).length ≤ 640) && decide (i.natAbs.log2 < 1920))))
theorem ok_deeds : ∀ x ∈ allDeeds, okDeed x = true := by decide +kernel
structure DT (x : Deed) : Prop where
  sp : ∀ p ∈ partsOf x, 32 ∉ tl p
  len : ∀ p ∈ partsOf x, p.length ≤ 6
  ok : ∀ p ∈ partsOf x, PyData.strOk p = true
  nl : 10 ∉ tl (dline x)
  dl : (dline x).length ≤ 30
  num : ∀ i ∈ nums x, istr i ∈ NUM ∧ PySem.intText? (istr i) = some i ∧ (istr i).length ≤ 640 ∧ i.natAbs.log2 < 1920
theorem deed_dt {x : Deed} (h : x.Ok) : DT x := by
  have := ok_deeds x (all_deeds h)
  unfold okDeed at this
  simp only [Bool.and_eq_true, List.all_eq_true, decide_eq_true_eq] at this
  obtain ⟨h1, h2, h3, h4⟩ := this
  exact ⟨fun p hp => (h1 p hp).1.1, fun p hp => (h1 p hp).1.2, fun p hp => (h1 p hp).2, h2, h3, fun i hi => ⟨(h4 i hi).1.1.1, (h4 i hi).1.1.2, (h4 i hi).1.2, (h4 i hi).2⟩⟩
theorem sp_tl : tl " " = [32] ∧ tl "\n" = [10] ∧ (" " : Str).cps.all (· < 256) = true ∧ ("\n" : Str).cps.all (· < 256) = true ∧ (" " : Str).length = 1 ∧ ("\n" : Str).length = 1 ∧ ("" : Str).length = 0 := by decide +kernel
theorem dline_split {x : Deed} (h : x.Ok) : Txt.split (dline x) " " = partsOf x :=
  split_join sp_tl.1 sp_tl.2.2.1 (by simp [partsOf]) (deed_dt h).sp
theorem sum_le {l : List Str} {m : Nat} (h : ∀ z ∈ l, z.length ≤ m) : (l.map (·.length)).sum ≤ l.length * m := by
  induction l with
  | nil => simp
  | cons z l ih =>
    rw [List.map_cons, List.sum_cons, List.length_cons, Nat.succ_mul]
    have := h z (List.mem_cons_self ..)
    have := ih fun y hy => h y (List.mem_cons_of_mem _ hy)
    omega
/-- the parts of a deed, as data -/
def prtD (x : Deed) : List D := [.str (sd x.side), .str (wordOf x)] ++ (nums x).map .int
theorem deed_parts (x : Deed) : x.d = .tup (prtD x) := by cases x <;> rfl
theorem bStr_part {x : Deed} (h : x.Ok) {S : Sto} : ∀ d ∈ prtD x, bStr [d] S = .ok (.str (match d with | .str z => z | .int i => istr i | _ => "")) S := by
  intro d hd
  rcases List.mem_append.mp hd with hd | hd
  · simp only [List.mem_cons, List.not_mem_nil, or_false] at hd
    rcases hd with rfl | rfl <;> rfl
  · obtain ⟨i, hi, rfl⟩ := List.mem_map.mp hd
    have := ((deed_dt h).num i hi).2.2.2
    show (if i.natAbs.log2 < 1920 then R.ok (D.str (toString i)) S else .no) = _
    rw [if_pos this]; rfl
theorem part_strs (x : Deed) : ((prtD x).map fun d => D.str (match d with | .str z => z | .int i => istr i | _ => "")) = (partsOf x).map D.str := by
  unfold prtD partsOf
  simp only [List.map_append, List.map_cons, List.map_nil, List.map_map]
  rfl
theorem partsOf_len (x : Deed) : (partsOf x).length ≤ 4 := by cases x <;> simp [partsOf, nums]
theorem parts_sum {x : Deed} (h : x.Ok) : ((partsOf x).map (·.length)).sum + (partsOf x).length * (" " : Str).length ≤ 16777216 := by
  have h1 := sum_le (deed_dt h).len
  have h2 := partsOf_len x
  have h3 : (partsOf x).length * 6 ≤ 4 * 6 := Nat.mul_le_mul_right _ h2
  rw [sp_tl.2.2.2.2.1]; omega
theorem str_lc {x : Deed} (h : x.Ok) {S : Sto} {ρ : GB.Env} {i : Nat} (hi : ∀ d : D, (ρ.set i (some d))[i]? = some (some d)) : cLoop (gNm i) (semC (.bl true)) (semCall bStr (semCons (semVar i) semNil)) ρ (prtD x) S = .ok ((partsOf x).map D.str) S := by
  have key := cLoop_map (i := i) (ρ := ρ) (S := S) (fe := semCall bStr (semCons (semVar i) semNil)) (f := fun d => .str (match d with | .str z => z | .int i => istr i | _ => "")) (ds := prtD x) (fun d hd => by
    have := bStr_part h (S := S) d hd
    simp only [semCall_eq, semCons_eq, semNil_eq, semVar_eq, hi, bind_ok, this])
  rw [part_strs] at key
  exact key
theorem prtD_len (x : Deed) : (prtD x).length ≤ 16777216 := by cases x <;> simp [prtD, nums]
theorem deed_line_eq {x : Deed} (h : x.Ok) {S : Sto} : g_deed_line [x.d] S = .ok (.str (dline x)) S := by
  have key := str_lc h (S := S) (ρ := [some x.d, none]) (i := 1) (fun d => rfl)
  have hs := parts_sum h
  have hw : wipeE [some x.d, none] [1] = [some x.d, none] := rfl
  have hi : strsIn (.lst ((partsOf x).map D.str)) S = some (partsOf x) := by simp only [strsIn, seqOf, lstOf, Option.bind_some, strsOf_strs]
  have hb : bItems x.d S = .ok (prtD x) S := by rw [deed_parts]; rfl
  simp only [g_deed_line, semFn_eq, sem_deed_line, startE, List.map_cons, List.map_nil, List.length_cons, List.length_nil, List.replicate, List.cons_append, List.nil_append, sRet_eq, semJoin, semC_eq, bind_ok, semLc_eq, semItems_eq, semVar_eq, List.getElem?_cons_zero, hb, kl, prtD_len, if_true, hw]
  rw [key]
  simp only [bind_ok, finD_eq, hi, hs, if_true, toS_ok, finR_rt]
  rfl
/-- the woods' line -/
def wcat (ws : List D) : Str := tx (ws.map wc)
def wline (ws : List D) : Str := "woods " ++ wcat ws
def tlines (ws : List D) (xs : List Deed) : List Str := wline ws :: xs.map dline
def ptxt (ws : List D) (xs : List Deed) : Str := Txt.join "\n" (tlines ws xs)
theorem ws_strs {ws : List D} (hw : ∀ x ∈ ws, isWood x = true) : ws = (ws.map fun d => tx [wc d]).map D.str := by
  rw [List.map_map]
  conv => lhs; rw [← List.map_id ws]
  exact List.map_congr_left fun d hd => (wood_tx (hw d hd)).1
theorem join_woods {ws : List D} : Txt.join "" (ws.map fun d => tx [wc d]) = wcat ws := by
  have e0 : ("" : Str) = SX.S [] := by decide +kernel
  have e1 : (ws.map fun d => tx [wc d]) = ((ws.map wc).map fun c => [c]).map SX.S := by
    rw [List.map_map, List.map_map]; rfl
  rw [e0, e1, SX.join_S, joinL_ones]
  rfl
theorem wood_code {ws : List D} (hw : ∀ x ∈ ws, isWood x = true) : ∀ c ∈ ws.map wc, c = 97 ∨ c = 98 ∨ c = 99 ∨ c = 100 := by
  intro c hc
  obtain ⟨d, hd, rfl⟩ := List.mem_map.mp hc
  have := hw d hd
  cases d with
  | str z =>
    have hz : z ∈ woods4 := by simpa [isWood] using this
    have key : ∀ z ∈ woods4, z.cps.getD 0 0 = 97 ∨ z.cps.getD 0 0 = 98 ∨ z.cps.getD 0 0 = 99 ∨ z.cps.getD 0 0 = 100 := by decide +kernel
    exact key z hz
  | _ => simp [isWood] at this
theorem wline_tl (ws : List D) : tl (wline ws) = [119, 111, 111, 100, 115, 32] ++ ws.map wc := by
  have h : tl "woods " = [119, 111, 111, 100, 115, 32] := by decide +kernel
  rw [wline, tl_append, h]; rfl
theorem wline_facts {ws : List D} (hw : ∀ x ∈ ws, isWood x = true) (hl : ws.length ≤ 4) : 10 ∉ tl (wline ws) ∧ (wline ws).length ≤ 30 := by
  rw [len_tl, wline_tl]
  refine ⟨fun h => ?_, by simp; omega⟩
  rcases List.mem_append.mp h with h | h
  · revert h; decide
  · rcases wood_code hw _ h with h | h | h | h <;> omega
theorem wline_split {ws : List D} (hw : ∀ x ∈ ws, isWood x = true) : Txt.split (wline ws) " " = [("woods" : Str), wcat ws] := by
  have e : wline ws = Txt.join " " [("woods" : Str), wcat ws] := by
    refine ext_tl ?_
    rw [wline_tl, join_eq, tl_join]
    have h1 : tl "woods" = [119, 111, 111, 100, 115] := by decide +kernel
    have h2 := sp_tl.1
    simp only [List.map_cons, List.map_nil, joinL, h1, h2]
    rfl
  rw [e]
  refine split_join sp_tl.1 sp_tl.2.2.1 (by simp) fun p hp => ?_
  simp only [List.mem_cons, List.not_mem_nil, or_false] at hp
  rcases hp with rfl | rfl
  · decide +kernel
  · intro h
    rcases wood_code hw _ h with h | h | h | h <;> omega
theorem tlines_facts {ws : List D} {xs : List Deed} (h : Pln ws xs) : ∀ z ∈ tlines ws xs, 10 ∉ tl z ∧ z.length ≤ 30 := by
  intro z hz
  rcases List.mem_cons.mp hz with rfl | hz
  · exact wline_facts h.w h.w1
  · obtain ⟨x, hx, rfl⟩ := List.mem_map.mp hz
    exact ⟨(deed_dt (h.x x hx)).nl, (deed_dt (h.x x hx)).dl⟩
theorem ptxt_split {ws : List D} {xs : List Deed} (h : Pln ws xs) : Txt.split (ptxt ws xs) "\n" = tlines ws xs :=
  split_join sp_tl.2.1 sp_tl.2.2.2.1 (by simp [tlines]) fun z hz => (tlines_facts h z hz).1
theorem tlines_sum {ws : List D} {xs : List Deed} (h : Pln ws xs) (hl : xs.length ≤ 6) : ((tlines ws xs).map (·.length)).sum + (tlines ws xs).length * ("\n" : Str).length ≤ 16777216 := by
  have h1 := sum_le fun z hz => (tlines_facts h z hz).2
  have h2 : (tlines ws xs).length = xs.length + 1 := by simp [tlines]
  rw [sp_tl.2.2.2.2.2.1]
  have h3 : (tlines ws xs).length * 30 ≤ 7 * 30 := Nat.mul_le_mul_right _ (by omega)
  omega
theorem joinL_len (y : List Nat) : ∀ ls : List (List Nat), (joinL y ls).length ≤ (ls.map (·.length)).sum + ls.length * y.length
  | [] => by simp [joinL]
  | [a] => by simp [joinL]
  | a :: b :: r => by
    have ih := joinL_len y (b :: r)
    show (a ++ (y ++ joinL y (b :: r))).length ≤ _
    rw [List.length_append, List.length_append, List.map_cons, List.sum_cons, List.length_cons, Nat.succ_mul]
    omega
theorem ptxt_len {ws : List D} {xs : List Deed} (h : Pln ws xs) (hl : xs.length ≤ 6) : (ptxt ws xs).length ≤ 300 := by
  have h1 := sum_le fun z hz => (tlines_facts h z hz).2
  have h2 : (tlines ws xs).length = xs.length + 1 := by simp [tlines]
  have h3 : (tlines ws xs).length * 30 ≤ 7 * 30 := Nat.mul_le_mul_right _ (by omega)
  rw [len_tl, ptxt, join_eq, tl_join]
  have h4 := joinL_len (tl "\n") ((tlines ws xs).map tl)
  have e1 : ((tlines ws xs).map tl).map (·.length) = (tlines ws xs).map (·.length) := by
    rw [List.map_map]
    exact List.map_congr_left fun z _ => (len_tl z).symm
  rw [e1, List.length_map] at h4
  have h5 : (tl "\n").length = 1 := by rw [sp_tl.2.1]; rfl
  rw [h5] at h4
  omega
theorem lines_lst {ws : List D} {xs : List Deed} {S : Sto} (hl : xs.length ≤ 6) : opAdd (.lst [.str (wline ws)]) (.lst (xs.map fun x => .str (dline x))) S = .ok (.lst ((tlines ws xs).map D.str)) S := by
  have : ([D.str (wline ws)]).length + (xs.map fun x => D.str (dline x)).length ≤ 16777216 := by simp; omega
  simp only [opAdd, lstOf, kl, this, if_true]
  simp [tlines]
theorem woods_add {ws : List D} {S : Sto} (hl : ws.length ≤ 4) : opAdd (.str "woods ") (.str (wcat ws)) S = .ok (.str (wline ws)) S := by
  have h1 : ("woods " : Str).length = 6 := by decide +kernel
  have h2 : (wcat ws).length = ws.length := by simp [wcat, Str.length]
  show (if ("woods " : Str).length + (wcat ws).length ≤ sizeLine then R.ok (D.str ("woods " ++ wcat ws)) S else .no) = _
  rw [if_pos (by rw [h1, h2, kl]; omega)]; rfl
theorem join_lem {f g : Sem} {ρ : GB.Env} {S : Sto} {a : Str} {d : D} {ys : List Str} (hf : f ρ S = .ok (.str a) S) (hg : g ρ S = .ok d S) (hd : strsIn d S = some ys) (hle : (ys.map fun z : Str => z.length).sum + ys.length * a.length ≤ 16777216) : semJoin f g ρ S = .ok (.str (Txt.join a ys)) S := by
  unfold semJoin
  simp only [hf, hg, bind_ok, hd]
  exact if_pos hle
theorem woods_join {g : Sem} {ρ : GB.Env} {ws : List D} {S : Sto} (hw : ∀ x ∈ ws, isWood x = true) (hl : ws.length ≤ 4) (hg : g ρ S = .ok (.tup ws) S) : semJoin (semC (.str "")) g ρ S = .ok (.str (wcat ws)) S := by
  have hs : strsIn (.tup ws) S = some (ws.map fun d => tx [wc d]) := by
    show (seqOf S (.tup ws)).bind strsOf = _
    show strsOf ws = _
    conv => lhs; rw [ws_strs hw]
    rw [strsOf_strs]
  have h1 : ((ws.map fun d => (tx [wc d] : Str)).map (fun z : Str => z.length)).sum = ws.length := by
    rw [sum_ones]
    · simp
    · intro z hz
      obtain ⟨d, _, rfl⟩ := List.mem_map.mp hz
      rfl
  rw [join_lem (a := "") rfl hg hs (by rw [h1, sp_tl.2.2.2.2.2.2, List.length_map]; omega), join_woods]
theorem plan_lines_eq {ws : List D} {xs : List Deed} {S : Sto} (h : Pln ws xs) (hl : xs.length ≤ 6) : g_plan_lines [planD ws xs] S = .ok (.lst ((tlines ws xs).map D.str)) S := by
  have key := cLoop_map (i := 1) (ρ := [some (planD ws xs), none]) (S := S) (fe := semCall (fun ds S => if ds.length = 1 then g_deed_line ds S else .no) (semCons (semVar 1) semNil)) (f := fun d => match g_deed_line [d] S with | .ok e _ => e | _ => .non) (ds := xs.map Deed.d) (fun d hd => by
    obtain ⟨x, hx, rfl⟩ := List.mem_map.mp hd
    simp [deed_line_eq (h.x x hx)])
  have e1 : (xs.map Deed.d).map (fun d => match g_deed_line [d] S with | .ok e _ => e | _ => .non) = xs.map fun x => .str (dline x) := by
    rw [List.map_map]
    exact List.map_congr_left fun x hx => by simp [deed_line_eq (h.x x hx)]
  rw [e1] at key
  have hu : (xs.map Deed.d).length ≤ 16777216 := by simp; omega
  have hw : wipeE [some (planD ws xs), none] [1] = [some (planD ws xs), none] := rfl
  have ha := woods_add (ws := ws) (S := S) h.w1
  have hll := lines_lst (ws := ws) (S := S) hl
  have e3 : semJoin (semC (.str "")) (sem2 opIx (semVar 0) (semC (.int 0))) [some (planD ws xs), none] S = .ok (.str (wcat ws)) S := woods_join h.w h.w1 (by
    simp only [semC_eq, bind_ok, sem2_eq, semVar_eq, List.getElem?_cons_zero, planD_ix0])
  have e2 : g_plan_lines [planD ws xs] S = finR (sRet (sem2 opAdd (semLst (semCons (sem2 opAdd (semC (.str "woods ")) (semJoin (semC (.str "")) (sem2 opIx (semVar 0) (semC (.int 0))))) semNil)) (semLc finD (semItems (sem2 opIx (semVar 0) (semC (.int 1)))) [1] (gNm 1) (semC (.bl true)) (semCall (fun ds S => if ds.length = 1 then g_deed_line ds S else .no) (semCons (semVar 1) semNil)))) [some (planD ws xs), none] S) := rfl
  rw [e2, sRet_eq, sem2_eq, semLst_eq, semCons_eq, sem2_eq, semC_eq, bind_ok, e3, bind_ok, ha, bind_ok, semNil_eq, bind_ok, bind_ok]
  simp only [List.length_cons, List.length_nil, kl, show (0 + 1 ≤ 16777216) from by omega, if_true, bind_ok]
  rw [semLc_eq, semItems_eq, sem2_eq, semVar_eq]
  simp only [List.getElem?_cons_zero, bind_ok, semC_eq, planD_ix1, bItems_tup, kl, hu, if_true, hw]
  rw [key]
  simp only [bind_ok, finD_eq, hll, toS_ok, finR_rt]
theorem law_lines_eq {ws : List D} {xs : List Deed} {S : Sto} (h : Pln ws xs) (hl : xs.length ≤ 6) : g__law_lines [planD ws xs] S = .ok (.lst ((tlines ws xs).map D.str)) S := by
  have key := cLoop_map (i := 1) (ρ := [some (planD ws xs), none, none]) (S := S) (fe := semJoin (semC (.str " ")) (semLc finD (semItems (semVar 1)) [2] (gNm 2) (semC (.bl true)) (semCall bStr (semCons (semVar 2) semNil)))) (f := fun d => match g_deed_line [d] S with | .ok e _ => e | _ => .non) (ds := xs.map Deed.d) (fun d hd => by
    obtain ⟨x, hx, rfl⟩ := List.mem_map.mp hd
    have hxk := h.x x hx
    have k2 := str_lc hxk (S := S) (ρ := [some (planD ws xs), some x.d, none]) (i := 2) (fun d => rfl)
    have hs := parts_sum hxk
    have hi : strsIn (.lst ((partsOf x).map D.str)) S = some (partsOf x) := by simp only [strsIn, seqOf, lstOf, Option.bind_some, strsOf_strs]
    have hb : bItems x.d S = .ok (prtD x) S := by rw [deed_parts]; rfl
    have hw : wipeE [some (planD ws xs), some x.d, none] [2] = [some (planD ws xs), some x.d, none] := rfl
    simp only [List.set_cons_succ, List.set_cons_zero, semJoin, semC_eq, bind_ok, semLc_eq, semItems_eq, semVar_eq, List.getElem?_cons_zero, List.getElem?_cons_succ, hb, kl, prtD_len, if_true, hw]
    rw [k2]
    simp only [bind_ok, finD_eq, hi, hs, if_true, deed_line_eq hxk]
    rfl)
  have e1 : (xs.map Deed.d).map (fun d => match g_deed_line [d] S with | .ok e _ => e | _ => .non) = xs.map fun x => .str (dline x) := by
    rw [List.map_map]
    exact List.map_congr_left fun x hx => by simp [deed_line_eq (h.x x hx)]
  rw [e1] at key
  have hu : (xs.map Deed.d).length ≤ 16777216 := by simp; omega
  have hw : wipeE [some (planD ws xs), none, none] [1] = [some (planD ws xs), none, none] := rfl
  have ha := woods_add (ws := ws) (S := S) h.w1
  have hll := lines_lst (ws := ws) (S := S) hl
  have e2 : g__law_lines [planD ws xs] S = finR (sRet (sem2 opAdd (semLst (semCons (sem2 opAdd (semC (.str "woods ")) (semJoin (semC (.str "")) (sem2 opIx (semVar 0) (semC (.int 0))))) semNil)) (semLc finD (semItems (sem2 opIx (semVar 0) (semC (.int 1)))) [1] (gNm 1) (semC (.bl true)) (semJoin (semC (.str " ")) (semLc finD (semItems (semVar 1)) [2] (gNm 2) (semC (.bl true)) (semCall bStr (semCons (semVar 2) semNil)))))) [some (planD ws xs), none, none] S) := rfl
  have e3 : semJoin (semC (.str "")) (sem2 opIx (semVar 0) (semC (.int 0))) [some (planD ws xs), none, none] S = .ok (.str (wcat ws)) S := woods_join h.w h.w1 (by
    simp only [semC_eq, bind_ok, sem2_eq, semVar_eq, List.getElem?_cons_zero, planD_ix0])
  rw [e2, sRet_eq, sem2_eq, semLst_eq, semCons_eq, sem2_eq, semC_eq, bind_ok, e3, bind_ok, ha, bind_ok, semNil_eq, bind_ok, bind_ok]
  simp only [List.length_cons, List.length_nil, kl, show (0 + 1 ≤ 16777216) from by omega, if_true, bind_ok]
  rw [semLc_eq, semItems_eq, sem2_eq, semVar_eq]
  simp only [List.getElem?_cons_zero, bind_ok, semC_eq, planD_ix1, bItems_tup, kl, hu, if_true, hw]
  rw [key]
  simp only [bind_ok, finD_eq, hll, toS_ok, finR_rt]
theorem lines_in {ws : List D} {xs : List Deed} {S : Sto} : strsIn (.lst ((tlines ws xs).map D.str)) S = some (tlines ws xs) := by
  simp only [strsIn, seqOf, lstOf, Option.bind_some, strsOf_strs]
theorem plan_text_eq {ws : List D} {xs : List Deed} {S : Sto} (h : Pln ws xs) (hl : xs.length ≤ 6) : g_plan_text [planD ws xs] S = .ok (.str (ptxt ws xs)) S := by
  have hn := pln_isPlan (S := S) h hl
  have hp := plan_lines_eq (S := S) h hl
  have hs := tlines_sum h hl
  have hi := lines_in (ws := ws) (xs := xs) (S := S)
  simp only [g_plan_text, semFn_eq, sem_plan_text, startE, List.map_cons, List.map_nil, List.length_cons, List.length_nil, List.replicate, List.cons_append, List.nil_append, sSeq_eq, sExpr_eq, semCall_eq, semCons_eq, semNil_eq, semVar_eq, List.getElem?_cons_zero, bind_ok, if_true, hn, toS_ok, seqS_nx, sRet_eq, semJoin, semC_eq, hp, hi, hs, finR_rt]
  rfl
end Sh
namespace Sh
open PySem L2 GB TL
/-! ### texts read -/
theorem num_all : ∀ z ∈ NUM, PyData.strOk z = true ∧ (PySem.intText? z).isSome = true := by decide +kernel
theorem in_NUM {z : Str} {S : Sto} (h : PyData.strOk z = true) : opIn (.str z) (tupS ["-2", "-1", "0", "1", "2", "3"]) S = .ok (.bl (decide (z ∈ NUM))) S := by
  have hl : NUM.all PyData.strOk = true := by decide +kernel
  have := (inD_strs (S := S) h hl).1
  show (match inD S (.str z) (.tup (NUM.map D.str)) with | some b => R.ok (D.bl b) S | none => R.no) = _
  rw [this]
theorem split_ok {z : Str} {S : Sto} {ρ : GB.Env} {i : Nat} (h : ρ[i]? = some (some (.str z))) (hl : z.length ≤ 1000) : semSplit (semVar i) (semC (.str " ")) ρ S = .ok (.lst ((Txt.split z " ").map .str)) S := by
  have h1 : (("" : Str).length == 0) = true := by decide +kernel
  have h2 : (((" " : Str).length == 0) = false) := by decide +kernel
  simp only [semSplit, semVar_eq, h, bind_ok, semC_eq]
  rw [if_pos ⟨h2, by rw [kl]; omega⟩]
/-- the numbers of a line, read -/
theorem ints_lc {x : Deed} (h : x.Ok) {S : Sto} {ρ : GB.Env} (hi : ∀ d : D, (ρ.set 3 (some d))[3]? = some (some d)) : cLoop (gNm 3) (semC (.bl true)) (semCall bInt (semCons (semVar 3) semNil)) ρ (((nums x).map istr).map D.str) S = .ok ((nums x).map D.int) S := by
  have key := cLoop_map (i := 3) (ρ := ρ) (S := S) (fe := semCall bInt (semCons (semVar 3) semNil)) (f := fun d => match bInt [d] S with | .ok e _ => e | _ => .non) (ds := ((nums x).map istr).map D.str) (fun d hd => by
    obtain ⟨z, hz, rfl⟩ := List.mem_map.mp hd
    obtain ⟨i, hi2, rfl⟩ := List.mem_map.mp hz
    obtain ⟨_, n1, n2, _⟩ := (deed_dt h).num i hi2
    have hb : bInt [.str (istr i)] S = .ok (.int i) S := by
      show (match PySem.intText? (istr i) with | some n => if (istr i).length ≤ 640 then R.ok (D.int n) S else .no | none => .no) = _
      rw [n1]
      exact if_pos n2
    simp only [semCall_eq, semCons_eq, semNil_eq, semVar_eq, hi, bind_ok, hb])
  rw [key, List.map_map, List.map_map]
  congr 1
  refine List.map_congr_left fun i hi2 => ?_
  obtain ⟨_, n1, n2, _⟩ := (deed_dt h).num i hi2
  have hb : bInt [.str (istr i)] S = .ok (.int i) S := by
    show (match PySem.intText? (istr i) with | some n => if (istr i).length ≤ 640 then R.ok (D.int n) S else .no | none => .no) = _
    rw [n1]
    exact if_pos n2
  show (match bInt [.str (istr i)] S with | .ok e _ => e | _ => .non) = _
  rw [hb]
theorem all_lc {x : Deed} (h : x.Ok) {S : Sto} {ρ : GB.Env} (hi : ∀ d : D, (ρ.set 3 (some d))[3]? = some (some d)) : cLoop (gNm 3) (semC (.bl true)) (sem2 opIn (semVar 3) (semC (tupS ["-2", "-1", "0", "1", "2", "3"]))) ρ (((nums x).map istr).map D.str) S = .ok ((((nums x).map istr).map D.str).map fun _ => .bl true) S := by
  refine cLoop_map (i := 3) (f := fun _ => .bl true) fun d hd => ?_
  obtain ⟨z, hz, rfl⟩ := List.mem_map.mp hd
  obtain ⟨i, hi2, rfl⟩ := List.mem_map.mp hz
  have n1 := ((deed_dt h).num i hi2).1
  have := in_NUM (S := S) (num_all _ n1).1
  simp only [sem2_eq, semVar_eq, hi, bind_ok, semC_eq, this, n1, decide_true]
theorem sl2 {a b : D} {l : List D} {S : Sto} : opSl (.lst (a :: b :: l)) (some 2) none S = .ok (.lst l) S := by
  have := cut_drop (xs := a :: b :: l) (i := 2) (by omega) (by simp only [List.length_cons]; omega)
  show R.ok (D.lst (cutD (a :: b :: l) (some 2) none)) S = _
  rw [this]; rfl
theorem deed_in_eq {x : Deed} (h : x.Ok) {S : Sto} : g_deed_in [.str (dline x)] S = .ok x.d S := by
  have hs := split_ok (z := dline x) (S := S) (ρ := [some (.str (dline x)), none, none, none]) (i := 0) rfl (by have := (deed_dt h).dl; omega)
  rw [dline_split h] at hs
  have hp : (partsOf x).map D.str = .str (sd x.side) :: .str (wordOf x) :: ((nums x).map istr).map D.str := by simp [partsOf]
  rw [hp] at hs
  have hnl : (((nums x).map istr).map D.str).length ≤ 2 := by cases x <;> simp [nums]
  have k1 := all_lc h (S := S) (ρ := [some (.str (dline x)), some (.lst (.str (sd x.side) :: .str (wordOf x) :: ((nums x).map istr).map D.str)), none, none]) (fun d => rfl)
  have k2 := ints_lc h (S := S) (ρ := [some (.str (dline x)), some (.lst (.str (sd x.side) :: .str (wordOf x) :: ((nums x).map istr).map D.str)), none, none]) (fun d => rfl)
  have hba : ∀ l : List D, bAll [.lst (l.map fun _ => .bl true)] S = .ok (.bl true) S := fun l => by
    have := bAll_map (S := S) (fun _ => true) l
    rw [this]; simp
  have hw : wipeE [some (.str (dline x)), some (.lst (.str (sd x.side) :: .str (wordOf x) :: ((nums x).map istr).map D.str)), none, none] [3] = [some (.str (dline x)), some (.lst (.str (sd x.side) :: .str (wordOf x) :: ((nums x).map istr).map D.str)), none, none] := rfl
  have hlen : decide ((((((nums x).map istr).map D.str).length + 1 + 1 : Nat) : Int) < 2) = false := by
    rw [decide_eq_false_iff_not]; omega
  have i0 : ∀ l : List D, ∀ a b : D, opIx (.lst (a :: b :: l)) (.int 0) S = .ok a S := fun l a b => by
    have : atI (a :: b :: l) 0 = some a := by
      unfold atI ixN
      rw [if_pos (by omega), if_pos (by simp; omega)]; rfl
    simp [this]
  have i1 : ∀ l : List D, ∀ a b : D, opIx (.lst (a :: b :: l)) (.int 1) S = .ok b S := fun l a b => by
    have : atI (a :: b :: l) 1 = some b := by
      unfold atI ixN
      rw [if_pos (by omega), if_pos (by simp; omega)]; rfl
    simp [this]
  have ht : bTuple [.lst ((nums x).map D.int)] S = .ok (.tup ((nums x).map D.int)) S := rfl
  have hc : opAdd (.tup [.str (sd x.side), .str (wordOf x)]) (.tup ((nums x).map D.int)) S = .ok x.d S := by
    rw [cat_tup (by cases x <;> simp [nums]), deed_parts]; rfl
  have hd := is_deed_eq (S := S) (deed_val x) (by omega)
  rw [isDeed_of x h] at hd
  have hll : ∀ l : List D, bLen [.lst l] S = .ok (.int l.length) S := fun l => rfl
  have e : g_deed_in [.str (dline x)] S = finR (sem_deed_in [some (.str (dline x)), none, none, none] S) := rfl
  rw [e, sem_deed_in, sSeq_eq, sAsg_eq, hs]
  simp only [toS_ok, gNm_eq, List.set_cons_succ, List.set_cons_zero, optS_some, seqS_nx, sSeq_eq, sIf_eq, semOr_eq, sem2_eq, sem1_eq, semCall_eq, semCons_eq, semNil_eq, semVar_eq, semC_eq, List.getElem?_cons_zero, List.getElem?_cons_succ, bind_ok, hll, opLt_int, List.length_cons, hlen, brB_bl, Bool.false_eq_true, if_false, semLc_eq, semItems_eq, semSl, OEx.run, sl2, bItems_lst, kl, show (((nums x).map istr).map D.str).length ≤ 16777216 from by omega, if_true, hw, k1, finD_eq, hba, opNot_bl, Bool.not_true, brS_bl, sNil_eq, sAsg_eq, semTup_eq, i0, i1, List.length_cons, List.length_nil, show (0 + 1 + 1 ≤ 16777216) from by omega, k2, ht, hc, sRet_eq, semIte_eq, hd, finR_rt]
theorem woods_none {x : Deed} (h : x.Ok) {S : Sto} : g_woods_in [.str (dline x)] S = .ok .non S := by
  have hs := split_ok (z := dline x) (S := S) (ρ := [some (.str (dline x)), none]) (i := 0) rfl (by have := (deed_dt h).dl; omega)
  rw [dline_split h] at hs
  have hp : (partsOf x).map D.str = .str (sd x.side) :: .str (wordOf x) :: ((nums x).map istr).map D.str := by simp [partsOf]
  rw [hp] at hs
  have i0 : ∀ l : List D, ∀ a b : D, opIx (.lst (a :: b :: l)) (.int 0) S = .ok a S := fun l a b => by
    have : atI (a :: b :: l) 0 = some a := by
      unfold atI ixN
      rw [if_pos (by omega), if_pos (by simp; omega)]; rfl
    simp [this]
  have hne : ¬ sd x.side = "woods" := by
    have : ∀ b, ¬ sd b = "woods" := by decide +kernel
    exact this _
  have e : g_woods_in [.str (dline x)] S = finR (sem_woods_in [some (.str (dline x)), none] S) := rfl
  rw [e, sem_woods_in, sSeq_eq, sAsg_eq, hs]
  simp only [toS_ok, gNm_eq, List.set_cons_succ, List.set_cons_zero, optS_some, seqS_nx, sSeq_eq, sIf_eq, semOr_eq, sem2_eq, semCall_eq, semCons_eq, semNil_eq, semVar_eq, semC_eq, List.getElem?_cons_zero, List.getElem?_cons_succ, bind_ok, bLen_lst, opNe_int, brB_bl, i0, opNe_str, hne, decide_false, Bool.not_false, if_true]
  split <;> simp
theorem woods_in_eq {ws : List D} {xs : List Deed} (h : Pln ws xs) {S : Sto} : g_woods_in [.str (wline ws)] S = .ok (.tup ws) S := by
  have hs := split_ok (z := wline ws) (S := S) (ρ := [some (.str (wline ws)), none]) (i := 0) rfl (by have := (wline_facts h.w h.w1).2; omega)
  rw [wline_split h.w] at hs
  have i0 : opIx (.lst [.str "woods", .str (wcat ws)]) (.int 0) S = .ok (.str "woods") S := rfl
  have i1 : opIx (.lst [.str "woods", .str (wcat ws)]) (.int 1) S = .ok (.str (wcat ws)) S := rfl
  have hc : (wcat ws).length = ws.length := by simp [wcat, Str.length]
  have w1 := h.w1
  have hli : bList [.str (wcat ws)] S = .ok (.lst ws) S := by
    show (if (wcat ws).length ≤ sizeLine then R.ok (D.lst ((wcat ws).cps.toList.map fun c => D.str ⟨#[c]⟩)) S else R.no) = _
    rw [if_pos (by rw [hc, kl]; omega)]
    congr 2
    conv => rhs; rw [ws_strs h.w]
    rw [List.map_map]
    simp only [wcat, List.map_map]
    rfl
  have ht : bTuple [.lst ws] S = .ok (.tup ws) S := rfl
  have hv : Val 10 1 (.tup ws) := (plan_val (ws := ws) (xs := []) h.w (by omega) (by simp) (by simp)).2 (.tup ws) (by simp) |> fun z => by
    exact ⟨by omega, fun x hx => by
      have := (wood_tx (h.w x hx))
      rw [this.1]
      exact val_str.mpr ⟨by simp [Str.length], by
        have h2 := this.2
        simp [PyData.strOk, h2]⟩⟩
  have hw := are_woods_eq (S := S) hv (by omega)
  have hat : areWoods (.tup ws) = true := by
    simp only [areWoods, Bool.and_eq_true, decide_eq_true_eq]
    exact ⟨h.w0, h.w1, List.all_eq_true.mpr h.w⟩
  rw [hat] at hw
  have e : g_woods_in [.str (wline ws)] S = finR (sem_woods_in [some (.str (wline ws)), none] S) := rfl
  have a0 : atI [D.str ("woods" : Str), D.str (wcat ws)] 0 = some (.str "woods") := rfl
  have a1 : atI [D.str ("woods" : Str), D.str (wcat ws)] 1 = some (.str (wcat ws)) := rfl
  rw [e, sem_woods_in, sSeq_eq, sAsg_eq, hs]
  simp [a0, a1, hli, ht, hw]
/-- read_plan, what it raises left open -/
noncomputable def rdPlan (r1 r2 r3 : SemS) : SemS := (sSeq (sIf (sem1 opNot (semCall bIsi (semCons (semVar 0) (semCons (semC (.ty .str)) semNil)))) r1 sNil) (sSeq (sAsg (semSplit (semVar 0) (semC (.str "\n"))) (gNm 1)) (sSeq (sFor (semArg bEnumL (semCons (semVar 1) semNil)) (gTp [2, 3]) (sIf (semAnd (sem2 opIs (semCall (fun ds S => if ds.length = 1 then g_woods_in ds S else .no) (semCons (semVar 3) semNil)) (semC .non)) (sem2 opIs (semCall (fun ds S => if ds.length = 1 then g_deed_in ds S else .no) (semCons (semVar 3) semNil)) (semC .non))) r2 sNil)) (sSeq (sPar [4, 5] (semCons (semCall (fun ds S => if ds.length = 1 then g_woods_in ds S else .no) (semCons (sem2 opIx (semVar 1) (semC (.int 0))) semNil)) (semCons (semCall bTuple (semCons (semLc finD (semItems (semSl (semVar 1) (.e (semC (.int 1))) .no)) [3] (gNm 3) (semC (.bl true)) (semCall (fun ds S => if ds.length = 1 then g_deed_in ds S else .no) (semCons (semVar 3) semNil))) semNil)) semNil))) (sSeq (sIf (semOr (sem2 opIs (semVar 4) (semC .non)) (semOr (sem2 opIn (semC .non) (semVar 5)) (sem1 opNot (semCall (fun ds S => if ds.length = 1 then g_is_plan_of ds S else .no) (semCons (semTup (semCons (semVar 4) (semCons (semVar 5) semNil))) semNil))))) r3 sNil) (sRet (semTup (semCons (semVar 4) (semCons (semVar 5) semNil)))))))))
theorem enumL_mem : ∀ {l : List D} {n : Nat} {d : D}, d ∈ enumL n l → ∃ (i : Nat) (e : D), d = .tup [.int i, e] ∧ e ∈ l
  | [], _, _, h => by cases h
  | a :: l, n, d, h => by
    rcases List.mem_cons.mp h with rfl | h
    · exact ⟨n, a, rfl, List.mem_cons_self ..⟩
    · obtain ⟨i, e, h1, h2⟩ := enumL_mem h
      exact ⟨i, e, h1, List.mem_cons_of_mem _ h2⟩
theorem non_in {w n : Nat} {L : List D} {S : Sto} (h : ∀ d ∈ L, Val w n d ∧ ∃ t, d = .tup t) (hn : n ≤ 50) : opIn .non (.tup L) S = .ok (.bl false) S := by
  obtain ⟨qs, h1, h2, h3⟩ := val_toPs (w := w) (n := n) fun y hy => (h y hy).1
  have s1 : SeqAt.shaped (.list qs) = true := by
    simp [SeqAt.shaped, PyData.canLay0, PyData.depth, h2]; omega
  have h4 : (qs.any fun z => PyData.eqv z .none) = false := by
    clear h2 h3 s1
    induction L generalizing qs with
    | nil => cases h1; rfl
    | cons d L ih =>
      rw [toPs] at h1
      split at h1
      · rename_i y ys e1 e2
        cases h1
        have := ih (fun d hd => h d (List.mem_cons_of_mem _ hd)) ys e2
        obtain ⟨t, rfl⟩ := (h d (List.mem_cons_self ..)).2
        rw [List.any_cons, this]
        rw [toP] at e1
        cases q : toPs t with
        | none => rw [q] at e1; cases e1
        | some qt => rw [q] at e1; cases e1; rfl
      · cases h1
  have e : inD S .non (.tup L) = some false := by
    have : inD S .non (.tup L) = (match toPS S .non, toPs L with
      | some a, some bs => if SeqAt.shaped a && SeqAt.shaped (.list bs) then some (bs.any fun z => PyData.eqv z a) else none
      | _, _ => none) := rfl
    rw [this, h1]
    show (if SeqAt.shaped PyData.none && SeqAt.shaped (.list qs) then some (qs.any fun z => PyData.eqv z .none) else none) = _
    have s0 : SeqAt.shaped PyData.none = true := rfl
    rw [s0, s1, h4]; rfl
  simp [opIn, e]
theorem read_eq {ws : List D} {xs : List Deed} (h : Pln ws xs) (hl : xs.length ≤ 6) {S : Sto} (r1 r2 r3 : SemS) : semFn 6 (rdPlan r1 r2 r3) [.str (ptxt ws xs)] S = .ok (planD ws xs) S := by
  have w1 := h.w1
  have hL := ptxt_len h hl
  have hsp : semSplit (semVar 0) (semC (.str "\n")) [some (.str (ptxt ws xs)), none, none, none, none, none] S = .ok (.lst ((tlines ws xs).map .str)) S := by
    have h2 : (((("\n" : Str).length == 0)) = false) := by decide +kernel
    simp only [semSplit, semVar_eq, List.getElem?_cons_zero, bind_ok, semC_eq]
    rw [if_pos ⟨h2, by rw [kl]; omega⟩, ptxt_split h]
  have hen : bEnumL [.lst ((tlines ws xs).map D.str)] S = .ok (enumL 0 ((tlines ws xs).map D.str)) S := rfl
  have hw0 := woods_in_eq h (S := S)
  obtain ⟨ρ', S', e, ⟨y2, y3, rfl⟩, hS⟩ := sLoop_inv (g := gTp [2, 3]) (fb := (sIf (semAnd (sem2 opIs (semCall (fun ds S => if ds.length = 1 then g_woods_in ds S else .no) (semCons (semVar 3) semNil)) (semC .non)) (sem2 opIs (semCall (fun ds S => if ds.length = 1 then g_deed_in ds S else .no) (semCons (semVar 3) semNil)) (semC .non))) r2 sNil)) (fun ρ S' => (∃ y2 y3, ρ = [some (.str (ptxt ws xs)), some (.lst ((tlines ws xs).map .str)), y2, y3, none, none]) ∧ S' = S) (ds := enumL 0 ((tlines ws xs).map D.str)) (ρ := [some (.str (ptxt ws xs)), some (.lst ((tlines ws xs).map .str)), none, none, none, none]) (S := S) ⟨⟨_, _, rfl⟩, rfl⟩ (by
    rintro d hd ρ S1 ⟨⟨y2, y3, rfl⟩, rfl⟩
    obtain ⟨i, z, rfl, hz⟩ := enumL_mem hd
    obtain ⟨t, ht, rfl⟩ := List.mem_map.mp hz
    refine ⟨_, [some (.str (ptxt ws xs)), some (.lst ((tlines ws xs).map .str)), some (.int i), some (.str t), none, none], S1, rfl, ?_, ⟨some (.int i), some (.str t), rfl⟩, rfl⟩
    rcases List.mem_cons.mp ht with rfl | ht
    · simp [hw0, opIs, isNone]
    · obtain ⟨x, hx, rfl⟩ := List.mem_map.mp ht
      have h1 := woods_none (h.x x hx) (S := S1)
      have h2 := deed_in_eq (h.x x hx) (S := S1)
      have h3 : isNone x.d = false := by cases x <;> rfl
      simp [h1, h2, opIs, h3])
  rw [hS] at e
  have hix : opIx (.lst ((tlines ws xs).map D.str)) (.int 0) S = .ok (.str (wline ws)) S := by
    have : atI ((tlines ws xs).map D.str) 0 = some (.str (wline ws)) := by
      unfold atI ixN
      rw [if_pos (by omega), if_pos (by simp [tlines])]; rfl
    simp only [opIx_lst, this]
  have hsl : opSl (.lst ((tlines ws xs).map D.str)) (some 1) none S = .ok (.lst (xs.map fun x => .str (dline x))) S := by
    have := cut_drop (xs := (tlines ws xs).map D.str) (i := 1) (by omega) (by simp [tlines]; omega)
    show R.ok (D.lst (cutD ((tlines ws xs).map D.str) (some 1) none)) S = _
    rw [this]
    simp [tlines]
  have key := cLoop_map (i := 3) (ρ := [some (.str (ptxt ws xs)), some (.lst ((tlines ws xs).map .str)), y2, none, none, none]) (S := S) (fe := semCall (fun ds S => if ds.length = 1 then g_deed_in ds S else .no) (semCons (semVar 3) semNil)) (f := fun d => match g_deed_in [d] S with | .ok e _ => e | _ => .non) (ds := xs.map fun x => .str (dline x)) (fun d hd => by
    obtain ⟨x, hx, rfl⟩ := List.mem_map.mp hd
    simp [deed_in_eq (h.x x hx)])
  have e1 : (xs.map fun x => D.str (dline x)).map (fun d => match g_deed_in [d] S with | .ok e _ => e | _ => .non) = xs.map Deed.d := by
    rw [List.map_map]
    exact List.map_congr_left fun x hx => by simp [deed_in_eq (h.x x hx)]
  rw [e1] at key
  have hu : (xs.map fun x => D.str (dline x)).length ≤ 16777216 := by simp; omega
  have hwp : wipeE [some (.str (ptxt ws xs)), some (.lst ((tlines ws xs).map .str)), y2, y3, none, none] [3] = [some (.str (ptxt ws xs)), some (.lst ((tlines ws xs).map .str)), y2, none, none, none] := rfl
  have ht : bTuple [.lst (xs.map Deed.d)] S = .ok (.tup (xs.map Deed.d)) S := rfl
  have hni : opIn .non (.tup (xs.map Deed.d)) S = .ok (.bl false) S := non_in (w := 10) (n := 1) (fun d hd => by
    obtain ⟨x, _, rfl⟩ := List.mem_map.mp hd
    exact ⟨deed_val x, _, deed_parts x⟩) (by omega)
  have hpl := is_plan_of_eq (S := S) (plan_val (ws := ws) (xs := xs) h.w (by omega) (by omega) h.x) (by omega)
  rw [plan_isPlan h.w h.w0 h.w1 hl h.x] at hpl
  have hpl : g_is_plan_of [.tup [.tup ws, .tup (xs.map Deed.d)]] S = .ok (.bl true) S := hpl
  have e2 : semFn 6 (rdPlan r1 r2 r3) [.str (ptxt ws xs)] S = finR (rdPlan r1 r2 r3 [some (.str (ptxt ws xs)), none, none, none, none, none] S) := rfl
  have hfor : sFor (semArg bEnumL (semCons (semVar 1) semNil)) (gTp [2, 3]) (sIf (semAnd (sem2 opIs (semCall (fun ds S => if ds.length = 1 then g_woods_in ds S else .no) (semCons (semVar 3) semNil)) (semC .non)) (sem2 opIs (semCall (fun ds S => if ds.length = 1 then g_deed_in ds S else .no) (semCons (semVar 3) semNil)) (semC .non))) r2 sNil) [some (.str (ptxt ws xs)), some (.lst ((tlines ws xs).map .str)), none, none, none, none] S = .nx [some (.str (ptxt ws xs)), some (.lst ((tlines ws xs).map .str)), y2, y3, none, none] S := by
    refine (sFor_ok (ds := enumL 0 ((tlines ws xs).map D.str)) ?_).trans e
    simp [hen]
  rw [e2, rdPlan, sSeq_eq, sIf_eq]
  simp only [sem1_eq, semCall_eq, semCons_eq, semNil_eq, semVar_eq, semC_eq, List.getElem?_cons_zero, bind_ok, bIsi_str, subTy_str_str, opNot_bl, Bool.not_true, toS_ok, brS_bl, Bool.false_eq_true, if_false, sNil_eq, seqS_nx]
  rw [sSeq_eq, sAsg_eq, hsp]
  simp only [toS_ok, gNm_eq, List.set_cons_succ, List.set_cons_zero, optS_some, seqS_nx]
  rw [sSeq_eq, hfor, seqS_nx, sSeq_eq]
  have hpar : sPar [4, 5] (semCons (semCall (fun ds S => if ds.length = 1 then g_woods_in ds S else .no) (semCons (sem2 opIx (semVar 1) (semC (.int 0))) semNil)) (semCons (semCall bTuple (semCons (semLc finD (semItems (semSl (semVar 1) (.e (semC (.int 1))) .no)) [3] (gNm 3) (semC (.bl true)) (semCall (fun ds S => if ds.length = 1 then g_deed_in ds S else .no) (semCons (semVar 3) semNil))) semNil)) semNil)) [some (.str (ptxt ws xs)), some (.lst ((tlines ws xs).map .str)), y2, y3, none, none] S = .nx [some (.str (ptxt ws xs)), some (.lst ((tlines ws xs).map .str)), y2, y3, some (.tup ws), some (.tup (xs.map Deed.d))] S := by
    simp only [sPar_eq, semCons_eq, semNil_eq, semCall_eq, sem2_eq, semVar_eq, semC_eq, List.getElem?_cons_zero, List.getElem?_cons_succ, bind_ok, hix, List.length_cons, List.length_nil, if_true, hw0, semLc_eq, semItems_eq, semSl, OEx.run, hsl, bItems_lst, kl, hu, hwp, key, finD_eq, ht, toSA_ok, setAll_cons, setAll_nil, List.set_cons_succ, List.set_cons_zero, optS_some]
  rw [hpar, seqS_nx, sSeq_eq]
  simp [opIs, isNone, hni, hpl, planD]
end Sh
namespace Sh
open PySem L2 GB
/-! ### boards of all numbers of slices -/
/-- two columns that a plan leads alike: near an end, as far from it; or amid, at the same rest -/
def Twin (P n n' u c c' : Int) : Prop :=
  (∃ z w : Int, -w ≤ z ∧ z < w ∧ w + u ≤ n ∧ w + u ≤ n' ∧ c = z % n ∧ c' = z % n') ∨ (u ≤ c ∧ c < n - u ∧ u ≤ c' ∧ c' < n' - u ∧ P ∣ c - c')
theorem emod_lo {z n : Int} (h0 : 0 ≤ z) (h1 : z < n) : z % n = z := Int.emod_eq_of_lt h0 h1
theorem emod_neg {z n : Int} (h0 : -n ≤ z) (h1 : z < 0) : z % n = z + n := by
  rw [← Int.add_emod_right]
  exact Int.emod_eq_of_lt (by omega) (by omega)
theorem twin_congr {P n n' u c c' : Int} (h : Twin P n n' u c c') (hu : 0 ≤ u) (hn : P ∣ n - n') : P ∣ c - c' := by
  rcases h with ⟨z, w, h1, h2, h3, h4, rfl, rfl⟩ | ⟨_, _, _, _, h⟩
  · by_cases hz : 0 ≤ z
    · rw [emod_lo hz (by omega), emod_lo hz (by omega)]
      simp
    · rw [emod_neg (by omega) (by omega), emod_neg (by omega) (by omega)]
      have : z + n - (z + n') = n - n' := by omega
      rwa [this]
  · exact h
theorem twin_ref {P n n' u c c' : Int} (h : Twin P n n' u c c') (hu : 0 ≤ u) (hn : P ∣ n - n') : Twin P n n' u (n - 1 - c) (n' - 1 - c') := by
  rcases h with ⟨z, w, h1, h2, h3, h4, rfl, rfl⟩ | ⟨h1, h2, h3, h4, h⟩
  · refine .inl ⟨-1 - z, w, by omega, by omega, h3, h4, ?_, ?_⟩
    · by_cases hz : 0 ≤ z
      · rw [emod_lo hz (by omega), emod_neg (by omega) (by omega)]; omega
      · rw [emod_neg (by omega) (by omega), emod_lo (by omega) (by omega)]; omega
    · by_cases hz : 0 ≤ z
      · rw [emod_lo hz (by omega), emod_neg (by omega) (by omega)]; omega
      · rw [emod_neg (by omega) (by omega), emod_lo (by omega) (by omega)]; omega
  · refine .inr ⟨by omega, by omega, by omega, by omega, ?_⟩
    have : n - 1 - c - (n' - 1 - c') = (n - n') - (c - c') := by omega
    rw [this]
    exact Int.dvd_sub hn h
theorem twin_shift {P n n' u s t c c' : Int} (h : Twin P n n' (u + s) c c') (hu : 0 ≤ u) (h0 : -s ≤ t) (h1 : t ≤ s) : Twin P n n' u ((c - t) % n) ((c' - t) % n') := by
  rcases h with ⟨z, w, k1, k2, k3, k4, rfl, rfl⟩ | ⟨k1, k2, k3, k4, h⟩
  · exact .inl ⟨z - t, w + s, by omega, by omega, by omega, by omega, Int.emod_sub_emod .., Int.emod_sub_emod ..⟩
  · refine .inr ?_
    rw [emod_lo (by omega) (by omega), emod_lo (by omega) (by omega)]
    refine ⟨by omega, by omega, by omega, by omega, ?_⟩
    have : c - t - (c' - t) = c - c' := by omega
    rwa [this]
theorem twin_less {P n n' u v c c' : Int} (h : Twin P n n' v c c') (hu : u ≤ v) : Twin P n n' u c c' := by
  rcases h with ⟨z, w, k1, k2, k3, k4, h⟩ | ⟨k1, k2, k3, k4, h⟩
  · exact .inl ⟨z, w, k1, k2, by omega, by omega, h⟩
  · exact .inr ⟨by omega, by omega, by omega, by omega, h⟩
theorem emod_of_dvd {P k a b : Int} (hk : k ∣ P) (h : P ∣ a - b) : a % k = b % k := Int.emod_eq_emod_iff_emod_sub_eq_zero.mpr (Int.emod_eq_zero_of_dvd (Int.dvd_trans hk h))
theorem far_snoc {m : Nat} {xs : List Deed} {x : Deed} : far m (xs ++ [x]) = far m xs + farD m x := by
  rw [far_sum, far_sum]; simp
theorem mul_le_abs {i r b : Int} (h0 : 0 ≤ r) (h1 : r ≤ b) : -(i.natAbs * b : Int) ≤ i * r ∧ i * r ≤ i.natAbs * b := by
  have h2 : (i.natAbs : Int) * r ≤ i.natAbs * b := Int.mul_le_mul_of_nonneg_left h1 (by omega)
  rcases Int.natAbs_eq i with e | e
  · have h3 : i * r = i.natAbs * r := by rw [← e]
    have h4 : 0 ≤ (i.natAbs : Int) * r := Int.mul_nonneg (by omega) h0
    omega
  · have h3 : i * r = -(i.natAbs * r : Int) := by
      conv => lhs; rw [e]
      rw [Int.neg_mul]
    have h4 : 0 ≤ (i.natAbs : Int) * r := Int.mul_nonneg (by omega) h0
    omega
/-- one deed taken back: the rows stay alike, the columns stay twins -/
theorem twin_goal {m : Nat} {P n n' u r c c' : Int} {x : Deed} (hx : x.Ok) (hm : 1 ≤ m) (hr0 : 0 ≤ r) (hr : r < m) (hu : 0 ≤ u) (hP : (perD m x : Int) ∣ P) (hn : P ∣ n - n') (h : Twin P n n' (u + farD m x) c c') :
    (goal m n x.un (r, c)).1 = (goal m n' x.un (r, c')).1 ∧ Twin P n n' u (goal m n x.un (r, c)).2 (goal m n' x.un (r, c')).2 := by
  have hf : (0 : Int) ≤ (farD m x : Nat) := by omega
  have h0 : Twin P n n' u c c' := twin_less h (by omega)
  have hcc := twin_congr h0 hu hn
  cases x with
  | back s =>
    cases s
    · exact ⟨rfl, twin_ref h0 hu hn⟩
    · exact ⟨rfl, h0⟩
  | move s b i =>
    cases s <;> cases b
    · refine ⟨rfl, ?_⟩
      have e : (farD m (.move false false i) : Int) = (i.natAbs : Int) := rfl
      rw [e] at h
      have := twin_shift (t := i) h hu (by omega) (by omega)
      simpa [goal, Deed.un, Int.sub_eq_add_neg] using this
    · have hk : (m : Int) ∣ P := hP
      have e1 : (c - c') % m = 0 := Int.emod_eq_zero_of_dvd (Int.dvd_trans hk hcc)
      refine ⟨?_, h0⟩
      show (r + -i * c) % m = (r + -i * c') % m
      have hd : (m : Int) ∣ (r + -i * c) - (r + -i * c') := by
        have : (r + -i * c) - (r + -i * c') = -i * (c - c') := by rw [Int.mul_sub]; omega
        rw [this]
        exact Int.dvd_mul_of_dvd_right (Int.dvd_trans hk hcc)
      exact emod_of_dvd (Int.dvd_refl _) hd
    · exact ⟨rfl, h0⟩
    · refine ⟨rfl, ?_⟩
      have e : (farD m (.move true true i) : Int) = (i.natAbs : Int) * ((m : Int) - 1) := by
        show ((i.natAbs * (m - 1) : Nat) : Int) = _
        rw [Int.natCast_mul]
        congr 1; omega
      rw [e] at h
      obtain ⟨b1, b2⟩ := mul_le_abs (i := i) hr0 (show r ≤ (m : Int) - 1 by omega)
      have := twin_shift (t := i * r) h hu b1 b2
      simpa [goal, Deed.un, Int.sub_eq_add_neg, Int.neg_mul] using this
  | turn s k q =>
    cases s
    · have hk : k ∣ P := by
        obtain ⟨k1, _⟩ := hx
        have : ((k.toNat : Nat) : Int) = k := Int.toNat_of_nonneg (by omega)
        rw [← this]; exact hP
      have e : c % k = c' % k := emod_of_dvd hk hcc
      show (goal m n (.turn false k q) (r, c)).1 = (goal m n' (.turn false k q) (r, c')).1 ∧ Twin P n n' u (goal m n (.turn false k q) (r, c)).2 (goal m n' (.turn false k q) (r, c')).2
      simp only [goal]
      by_cases hq : c % k = q
      · rw [if_pos hq, if_pos (e ▸ hq)]; exact ⟨rfl, h0⟩
      · rw [if_neg hq, if_neg (fun z => hq (e.trans z))]; exact ⟨rfl, h0⟩
    · show (goal m n (.turn true k q) (r, c)).1 = (goal m n' (.turn true k q) (r, c')).1 ∧ Twin P n n' u (goal m n (.turn true k q) (r, c)).2 (goal m n' (.turn true k q) (r, c')).2
      simp only [goal]
      by_cases hq : r % k = q
      · rw [if_pos hq, if_pos hq]; exact ⟨rfl, twin_ref h0 hu hn⟩
      · rw [if_neg hq, if_neg hq]; exact ⟨rfl, h0⟩
theorem twin_lead {m : Nat} {P n n' : Int} (hm : 1 ≤ m) (hn0 : 0 < n) (hn : P ∣ n - n') : ∀ (k : Nat) (xs : List Deed) (r c c' : Int), xs.length = k → 0 ≤ r → r < m → 0 ≤ c → c < n → (∀ x ∈ xs, x.Ok ∧ (perD m x : Int) ∣ P) → Twin P n n' (far m xs) c c' → (lead m n xs (r, c)).1 = (lead m n' xs (r, c')).1
  | 0, xs, r, c, c', hk, _, _, _, _, _, _ => by
    obtain rfl := List.eq_nil_of_length_eq_zero hk
    rfl
  | k + 1, xs, r, c, c', hk, hr0, hr, hc0, hc, hx, h => by
    have hne : xs ≠ [] := by intro e; rw [e] at hk; simp at hk
    obtain ⟨ys, x, rfl⟩ : ∃ ys x, xs = ys ++ [x] := ⟨xs.dropLast, xs.getLast hne, (List.dropLast_concat_getLast hne).symm⟩
    have hxx := hx x (by simp)
    rw [far_snoc, Int.natCast_add] at h
    obtain ⟨g1, g2⟩ := twin_goal hxx.1 hm hr0 hr (by omega) hxx.2 hn h
    have hin := goal_in (m := m) (n := n) x.un (y := (r, c)) ⟨hr0, hr, hc0, hc⟩
    obtain ⟨i1, i2, i3, i4⟩ := hin
    rw [lead_snoc, lead_snoc]
    have ih := twin_lead hm hn0 hn k ys (goal m n x.un (r, c)).1 (goal m n x.un (r, c)).2 (goal m n' x.un (r, c')).2 (by simp at hk; omega) i1 i2 i3 i4 (fun y hy => hx y (by simp [hy])) g2
    have e : goal m n' x.un (r, c') = ((goal m n x.un (r, c)).1, (goal m n' x.un (r, c')).2) := by rw [g1]
    rw [e]
    exact ih
theorem Pln.per_dvd {ws : List D} {xs : List Deed} (h : Pln ws xs) {P : Int} (hP : (per ws.length xs : Int) ∣ P) : ∀ x ∈ xs, x.Ok ∧ (perD ws.length x : Int) ∣ P := fun x hx => by
  refine ⟨h.x x hx, Int.dvd_trans ?_ hP⟩
  exact Int.natCast_dvd_natCast.mpr (((Sh.per_dvd xs 1 (per ws.length xs)).mp (Nat.dvd_refl _)).2 x hx)
/-- boards with so many slices tell those with so many more -/
theorem bdT_twin {ws : List D} {xs : List Deed} (h : Pln ws xs) {P : Int} (hP : (per ws.length xs : Int) ∣ P) {n n' r c c' : Nat} (hr : r < ws.length) (hc : c < n) (hn : P ∣ (n : Int) - n') (ht : Twin P n n' (far ws.length xs) c c') : bdT ws xs n r c = bdT ws xs n' r c' := by
  have w0 := h.w0
  unfold bdT
  rw [twin_lead (P := P) (by omega) (by omega) hn xs.length xs r c c' rfl (by omega) (by omega) (by omega) (by omega) (h.per_dvd hP) ht]
/-- where to look for a column of a great board: a place of one of a few slices -/
theorem twin_of {F P n n' : Nat} (hP : 0 < P) (hn : 2 * F + P ≤ n) (hn' : 2 * F + P ≤ n') {c : Nat} (hc : c < n) : ∃ c', c' < n' ∧ Twin P n n' F c c' := by
  by_cases h1 : c < F
  · exact ⟨c, by omega, .inl ⟨c, F, by omega, by omega, by omega, by omega, (emod_lo (by omega) (by omega)).symm, (emod_lo (by omega) (by omega)).symm⟩⟩
  · by_cases h2 : n - F ≤ c
    · refine ⟨c + n' - n, by omega, .inl ⟨(c : Int) - n, F, by omega, by omega, by omega, by omega, ?_, ?_⟩⟩
      · rw [emod_neg (by omega) (by omega)]; omega
      · rw [emod_neg (by omega) (by omega)]; omega
    · have hm := Nat.mod_lt (c - F) hP
      have hdm := Nat.div_add_mod (c - F) P
      refine ⟨F + (c - F) % P, by omega, .inr ⟨by omega, by omega, by omega, by omega, ⟨((c - F) / P : Nat), ?_⟩⟩⟩
      rw [← Int.natCast_mul]; omega
theorem same_from {ws vs : List D} {xs ys : List Deed} (h : Pln ws xs) (g : Pln vs ys) (hl : ws.length = vs.length) {F P T : Nat} (hF1 : far ws.length xs ≤ F) (hF2 : far ws.length ys ≤ F) (hP1 : per ws.length xs ∣ P) (hP2 : per ws.length ys ∣ P) (hP : 0 < P) (hT : 2 * F + 2 * P ≤ T)
    (hs : ∀ n, 1 ≤ n → n ≤ T → bd ws xs n = bd vs ys n) : ∀ n, 1 ≤ n → bd ws xs n = bd vs ys n := by
  intro n n1
  by_cases hle : n ≤ T
  · exact hs n n1 hle
  · have hm := Nat.mod_lt (n - (2 * F + P)) hP
    have hdm := Nat.div_add_mod (n - (2 * F + P)) P
    obtain ⟨n', hn'⟩ : ∃ n', n' = 2 * F + P + (n - (2 * F + P)) % P := ⟨_, rfl⟩
    have hd : (P : Int) ∣ (n : Int) - n' := ⟨((n - (2 * F + P)) / P : Nat), by rw [← Int.natCast_mul]; omega⟩
    have e4 : ∀ k, bd vs ys k = brd (bdT vs ys k) ws.length k := fun k => by rw [hl]; rfl
    have hs' := hs n' (by omega) (by omega)
    rw [e4] at hs' ⊢
    have hs2 := brd_inj.mp hs'
    refine brd_congr fun r c hr hc => ?_
    obtain ⟨c', hc', tw⟩ := twin_of (F := F) (P := P) (n := n) (n' := n') hP (by omega) (by omega) hc
    rw [bdT_twin h (Int.natCast_dvd_natCast.mpr hP1) hr hc hd (twin_less tw (by omega)), bdT_twin g (P := P) (by rw [← hl]; exact Int.natCast_dvd_natCast.mpr hP2) (by omega) hc hd (twin_less tw (by rw [← hl]; omega))]
    exact hs2 r c' hr hc'
end Sh
namespace Sh
open PySem L2 GB
/-! ### boards turned -/
def tw (o e : Bool) : List Deed := (if o then [.back true] else []) ++ (if e then [.back false] else [])
def turnT (o e : Bool) (m n : Nat) (T : Nat → Nat → Nat) : Nat → Nat → Nat := fun r c => T (if o then m - 1 - r else r) (if e then n - 1 - c else c)
theorem bd_over {ws : List D} {xs : List Deed} {n : Nat} : bd ws (xs ++ [.back true]) n = brd (turnT true false ws.length n (bdT ws xs n)) ws.length n := by
  refine brd_congr fun r c hr hc => ?_
  rw [← bT_bdT hr hc]
  show bdT ws xs n ((ws.length : Int) - 1 - r).toNat ((c : Int)).toNat = bdT ws xs n (ws.length - 1 - r) c
  congr 1
  omega
theorem bd_ends {ws : List D} {xs : List Deed} {n : Nat} : bd ws (xs ++ [.back false]) n = brd (turnT false true ws.length n (bdT ws xs n)) ws.length n := by
  refine brd_congr fun r c hr hc => ?_
  rw [← bT_bdT hr hc]
  show bdT ws xs n ((r : Int)).toNat ((n : Int) - 1 - c).toNat = bdT ws xs n r (n - 1 - c)
  congr 1
  omega
theorem bd_turn {ws : List D} {xs : List Deed} {n : Nat} (o e : Bool) : bd ws (xs ++ tw o e) n = brd (turnT o e ws.length n (bdT ws xs n)) ws.length n := by
  cases o <;> cases e
  · show bd ws (xs ++ []) n = _
    rw [List.append_nil]; rfl
  · exact bd_ends
  · exact bd_over
  · show bd ws (xs ++ [.back true, .back false]) n = _
    have e : xs ++ [Deed.back true, .back false] = (xs ++ [.back true]) ++ [.back false] := by simp
    rw [e, bd_ends]
    have h := bd_over (ws := ws) (xs := xs) (n := n)
    have h2 := brd_inj.mp h
    refine brd_congr fun r c hr hc => ?_
    exact h2 r (n - 1 - c) hr (by omega)
theorem pln_turn {ws : List D} {xs : List Deed} (h : Pln ws xs) (o e : Bool) : Pln ws (xs ++ tw o e) := by
  refine ⟨h.w, h.w0, h.w1, fun x hx => ?_⟩
  rcases List.mem_append.mp hx with hx | hx
  · exact h.x x hx
  · cases o <;> cases e <;> simp [tw] at hx
    · subst hx; trivial
    · subst hx; trivial
    · rcases hx with rfl | rfl <;> trivial
theorem far_turn {m : Nat} {xs : List Deed} (o e : Bool) : far m (xs ++ tw o e) = far m xs := by
  rw [far_sum, far_sum, List.map_append, List.sum_append]
  cases o <;> cases e <;> simp [tw, farD]
theorem per_turn {m : Nat} {xs : List Deed} (o e : Bool) : per m (xs ++ tw o e) = per m xs := by
  unfold per
  rw [List.foldl_append]
  cases o <;> cases e <;> simp [tw, perD]
def isO (w : Str) : Bool := decide (w = "both") || decide (w = "over")
def isE (w : Str) : Bool := decide (w = "both") || decide (w = "ends")
def twords : List Str := ["both", "ends", "none", "over"]
theorem tw_ok : ∀ w ∈ twords, PyData.strOk w = true := by decide +kernel
theorem w4_ok : PyData.strOk "both" = true ∧ PyData.strOk "ends" = true ∧ PyData.strOk "over" = true := by decide +kernel
theorem rev_brd {T : Nat → Nat → Nat} {m n : Nat} {S : Sto} : opRev (brd T m n) S = .ok (brd (turnT true false m n T) m n) S := by
  show R.ok (D.tup (linesL T m n).reverse) S = _
  rw [linesL_rev]; rfl
theorem rev_lines {T : Nat → Nat → Nat} {m n i : Nat} {S : Sto} {ρ : GB.Env} (hn : n ≤ 100000) (hi : ∀ d : D, (ρ.set i (some d))[i]? = some (some d)) : cLoop (gNm i) (semC (.bl true)) (sem1 opRev (semVar i)) ρ (linesL T m n) S = .ok (linesL (turnT false true m n T) m n) S := by
  have key := cLoop_map (i := i) (ρ := ρ) (S := S) (fe := sem1 opRev (semVar i)) (f := fun d => match opRev d S with | .ok e _ => e | _ => .non) (ds := linesL T m n) (fun d hd => by
    obtain ⟨r, _, rfl⟩ := List.mem_map.mp hd
    have := lineS_rev (S := S) (f := T r) hn
    simp only [sem1_eq, semVar_eq, hi, bind_ok, this])
  rw [key]
  congr 1
  unfold linesL
  rw [List.map_map]
  refine List.map_congr_left fun r _ => ?_
  have := lineS_rev (S := S) (f := T r) hn
  show (match opRev (.str (lineS (T r) n)) S with | .ok e _ => e | _ => .non) = _
  rw [this]; rfl
theorem turned_eq {T : Nat → Nat → Nat} {m n : Nat} {w : Str} {S : Sto} (hw : w ∈ twords) (hm : m ≤ 100000) (hn : n ≤ 100000) : g_turned [brd T m n, .str w] S = .ok (brd (turnT (isO w) (isE w) m n T) m n) S := by
  obtain ⟨o1, o2, o3⟩ := w4_ok
  have wk := tw_ok w hw
  have i1 := fun S => (opIn2 (S := S) wk o1 o3).1
  have i2 := fun S => (opIn2 (S := S) wk o1 o2).1
  have e0 : g_turned [brd T m n, .str w] S = finR (sem_turned [some (brd T m n), some (.str w), none] S) := rfl
  have t1 : sIf (sem2 opIn (semVar 1) (semTup (semCons (semC (.str "both")) (semCons (semC (.str "over")) semNil)))) (sAsg (sem1 opRev (semVar 0)) (gNm 0)) sNil [some (brd T m n), some (.str w), none] S = .nx [some (brd (turnT (isO w) false m n T) m n), some (.str w), none] S := by
    cases ho : isO w with
    | true =>
      have ho' : (decide (w = "both") || decide (w = "over")) = true := ho
      simp only [sIf_eq, sem2_eq, semVar_eq, semTup_eq, semCons_eq, semNil_eq, semC_eq, List.getElem?_cons_zero, List.getElem?_cons_succ, bind_ok, List.length_cons, List.length_nil, kl, show (0 + 1 + 1 ≤ 16777216) from by omega, if_true, i1, ho', toS_ok, brS_bl, sAsg_eq, sem1_eq, rev_brd, gNm_eq, List.set_cons_zero, optS_some]
    | false =>
      have ho' : (decide (w = "both") || decide (w = "over")) = false := ho
      simp only [sIf_eq, sem2_eq, semVar_eq, semTup_eq, semCons_eq, semNil_eq, semC_eq, List.getElem?_cons_zero, List.getElem?_cons_succ, bind_ok, List.length_cons, List.length_nil, kl, show (0 + 1 + 1 ≤ 16777216) from by omega, if_true, i1, ho', toS_ok, brS_bl, Bool.false_eq_true, if_false, sNil_eq]
      rfl
  rw [e0, sem_turned, sSeq_eq, t1, seqS_nx, sRet_eq, semIte_eq]
  have hl : (linesL (turnT (isO w) false m n T) m n).length ≤ 16777216 := by rw [linesL_len]; omega
  have hwp : wipeE [some (brd (turnT (isO w) false m n T) m n), some (.str w), none] [2] = [some (brd (turnT (isO w) false m n T) m n), some (.str w), none] := rfl
  have hb : bItems (brd (turnT (isO w) false m n T) m n) S = .ok (linesL (turnT (isO w) false m n T) m n) S := rfl
  have key := rev_lines (T := turnT (isO w) false m n T) (m := m) (n := n) (i := 2) (S := S) (ρ := [some (brd (turnT (isO w) false m n T) m n), some (.str w), none]) hn (fun d => rfl)
  have ht : ∀ L : List D, bTuple [.lst L] S = .ok (.tup L) S := fun L => rfl
  cases he : isE w with
  | true =>
    have he' : (decide (w = "both") || decide (w = "ends")) = true := he
    simp only [sem2_eq, semVar_eq, semTup_eq, semCons_eq, semNil_eq, semC_eq, List.getElem?_cons_zero, List.getElem?_cons_succ, bind_ok, List.length_cons, List.length_nil, kl, show (0 + 1 + 1 ≤ 16777216) from by omega, if_true, i2, he', brB_bl, semCall_eq, semLc_eq, semItems_eq, hb, hl, hwp, key, finD_eq, ht, toS_ok, finR_rt]
    rfl
  | false =>
    have he' : (decide (w = "both") || decide (w = "ends")) = false := he
    simp only [sem2_eq, semVar_eq, semTup_eq, semCons_eq, semNil_eq, semC_eq, List.getElem?_cons_zero, List.getElem?_cons_succ, bind_ok, List.length_cons, List.length_nil, kl, show (0 + 1 + 1 ≤ 16777216) from by omega, if_true, i2, he', brB_bl, Bool.false_eq_true, if_false, toS_ok, finR_rt]
theorem pln_need {ws vs : List D} {xs ys : List Deed} {S : Sto} (h : Pln ws xs) (g : Pln vs ys) (hl : xs.length ≤ 6) (gl : ys.length ≤ 6) : g_need_both [planD ws xs, planD vs ys] S = if ws.length = vs.length then .ok .non S else .ex ⟨"Unlike", []⟩ S := by
  have h1 := pln_isPlan (S := S) h hl
  have h2 := pln_isPlan (S := S) g gl
  have e : (decide ((ws.length : Int) = (vs.length : Int))) = decide (ws.length = vs.length) := by
    rw [Bool.eq_iff_iff]; simp; omega
  by_cases hq : ws.length = vs.length
  · simp [g_need_both, semFn_eq, sem_need_both, startE, h1, h2, planD_ix0, hq]
  · have : ¬ ((ws.length : Int) = (vs.length : Int)) := by omega
    simp [g_need_both, semFn_eq, sem_need_both, startE, h1, h2, planD_ix0, this, hq]
theorem alike_eq {ws vs : List D} {xs ys : List Deed} {S : Sto} (h : Pln ws xs) (g : Pln vs ys) (hl : xs.length ≤ 6) (gl : ys.length ≤ 6) (hw : ws.length = vs.length) (ht : topN ws.length xs ys ≤ 10000) : g_alike [planD ws xs, planD vs ys] S = .ok (.bl (isNone (optD (partD ws xs vs ys (topN ws.length xs ys))))) S := by
  have h1 := pln_need (S := S) h g hl gl
  rw [if_pos hw] at h1
  have h2 := parted_eq (S := S) h g hw ht
  simp [g_alike, semFn_eq, sem_alike, startE, h1, h2, opIs]
theorem parting_eq {ws vs : List D} {xs ys : List Deed} {S : Sto} (h : Pln ws xs) (g : Pln vs ys) (hl : xs.length ≤ 6) (gl : ys.length ≤ 6) (hw : ws.length = vs.length) (ht : topN ws.length xs ys ≤ 10000) : g_parting [planD ws xs, planD vs ys] S = .ok (optD (partD ws xs vs ys (topN ws.length xs ys))) S := by
  have h1 := pln_need (S := S) h g hl gl
  rw [if_pos hw] at h1
  have h2 := parted_eq (S := S) h g hw ht
  simp [g_parting, semFn_eq, sem_parting, startE, h1, h2]
theorem unlike_eq {ws vs : List D} {xs ys : List Deed} {S : Sto} (h : Pln ws xs) (g : Pln vs ys) (hl : xs.length ≤ 6) (gl : ys.length ≤ 6) (hw : ws.length ≠ vs.length) : g_alike [planD ws xs, planD vs ys] S = .ex ⟨"Unlike", []⟩ S ∧ g_parting [planD ws xs, planD vs ys] S = .ex ⟨"Unlike", []⟩ S ∧ g_turns [planD ws xs, planD vs ys] S = .ex ⟨"Unlike", []⟩ S := by
  have h1 := pln_need (S := S) h g hl gl
  rw [if_neg hw] at h1
  refine ⟨?_, ?_, ?_⟩
  · simp [g_alike, semFn_eq, sem_alike, startE, h1]
  · simp [g_parting, semFn_eq, sem_parting, startE, h1]
  · simp [g_turns, semFn_eq, sem_turns, startE, h1]
/-- the words by which one plan's boards are another's, up to so many slices -/
def turnL (ws : List D) (xs : List Deed) (vs : List D) (ys : List Deed) (top : Nat) : List Str := twords.filter fun w => sameB ws (xs ++ tw (isO w) (isE w)) vs ys top
noncomputable abbrev tuB1 : SemS := (sAsg (semLR (semC (.int 1)) (sem2 opAdd (semCall (fun ds S => if ds.length = 2 then g_top_of ds S else .no) (semCons (semVar 0) (semCons (semVar 1) semNil))) (semC (.int 1)))) (gNm 4))
noncomputable abbrev tuB2 : SemS := (sIf (semCall bAll (semCons (semLc finD (semItems (semVar 4)) [5] (gNm 5) (semC (.bl true)) (sem2 opEq (semCall (fun ds S => if ds.length = 2 then g_turned ds S else .no) (semCons (semCall (fun ds S => if ds.length = 2 then g_board_of ds S else .no) (semCons (semVar 0) (semCons (semVar 5) semNil))) (semCons (semVar 3) semNil))) (semCall (fun ds S => if ds.length = 2 then g_board_of ds S else .no) (semCons (semVar 1) (semCons (semVar 5) semNil))))) semNil)) (sExpr (semApp (semVar 2) (semVar 3))) sNil)
open Classical in
theorem turns_step {ws vs : List D} {xs ys : List Deed} {S : Sto} {f : Nat} {L : List D} {w : Str} {y4 y5 : Option D} (h : Pln ws xs) (g : Pln vs ys) (hw : ws.length = vs.length) (ht : topN ws.length xs ys ≤ 10000) (hwd : w ∈ twords) (hf : S[f]? = some (.lst L)) (hL : L.length < 1000) :
    ∃ z4 z5, (sSeq tuB1 tuB2) [some (planD ws xs), some (planD vs ys), some (.own f), some (.str w), y4, y5] S = .nx [some (planD ws xs), some (planD vs ys), some (.own f), some (.str w), z4, z5] (if sameB ws (xs ++ tw (isO w) (isE w)) vs ys (topN ws.length xs ys) = true then S.set f (.lst (L ++ [.str w])) else S) := by
  have w1 := h.w1
  have htp := top_of_eq (S := S) h g hw
  have hr := range_nums (n := topN ws.length xs ys) (S := S) (by omega)
  have hnl : (numsN (topN ws.length xs ys)).length ≤ 16777216 := by simp [numsN]; omega
  have t1 : tuB1 [some (planD ws xs), some (planD vs ys), some (.own f), some (.str w), y4, y5] S = .nx [some (planD ws xs), some (planD vs ys), some (.own f), some (.str w), some (.lst (numsN (topN ws.length xs ys))), y5] S := by
    simp only [sAsg_eq, semLR, semC_eq, sem2_eq, semCall_eq, semCons_eq, semNil_eq, semVar_eq, List.getElem?_cons_zero, List.getElem?_cons_succ, bind_ok, List.length_cons, List.length_nil, if_true, htp, opAdd_int, hr, kl, hnl, toS_ok, gNm_eq, optS_some, List.set_cons_succ, List.set_cons_zero]
  have hpt := pln_turn h (isO w) (isE w)
  have key := cLoop_map (i := 5) (ρ := [some (planD ws xs), some (planD vs ys), some (.own f), some (.str w), some (.lst (numsN (topN ws.length xs ys))), none]) (S := S) (fe := (sem2 opEq (semCall (fun ds S => if ds.length = 2 then g_turned ds S else .no) (semCons (semCall (fun ds S => if ds.length = 2 then g_board_of ds S else .no) (semCons (semVar 0) (semCons (semVar 5) semNil))) (semCons (semVar 3) semNil))) (semCall (fun ds S => if ds.length = 2 then g_board_of ds S else .no) (semCons (semVar 1) (semCons (semVar 5) semNil))))) (f := fun d => .bl (decide (bd ws (xs ++ tw (isO w) (isE w)) (ixOf d) = bd vs ys (ixOf d)))) (ds := numsN (topN ws.length xs ys)) (fun d hd => by
    obtain ⟨n, rfl, n0, n1⟩ := numsN_mem hd
    have b1 := h.board (n := n) (S := S) (by omega) (by omega)
    have b2 := g.board (n := n) (S := S) (by omega) (by omega)
    have b3 := turned_eq (T := bdT ws xs n) (m := ws.length) (n := n) (S := S) hwd (by omega) (by omega)
    rw [← bd_turn] at b3
    have b3 : g_turned [bd ws xs n, .str w] S = .ok (bd ws (xs ++ tw (isO w) (isE w)) n) S := b3
    obtain ⟨b, b4, _, b5⟩ := bd_ne (S := S) hpt g (n := n) (by omega)
    have b6 : b = decide (bd ws (xs ++ tw (isO w) (isE w)) n = bd vs ys n) := by
      rw [Bool.eq_iff_iff, decide_eq_true_eq]; exact b5
    have e : ixOf (.int (n : Nat)) = n := rfl
    simp only [sem2_eq, semCall_eq, semCons_eq, semNil_eq, semVar_eq, List.set_cons_succ, List.set_cons_zero, List.getElem?_cons_zero, List.getElem?_cons_succ, bind_ok, List.length_cons, List.length_nil, if_true, b1, b2, b3, b4, e, b6])
  have hwp : wipeE [some (planD ws xs), some (planD vs ys), some (.own f), some (.str w), some (.lst (numsN (topN ws.length xs ys))), y5] [5] = [some (planD ws xs), some (planD vs ys), some (.own f), some (.str w), some (.lst (numsN (topN ws.length xs ys))), none] := rfl
  have hall : ((numsN (topN ws.length xs ys)).all fun d => decide (bd ws (xs ++ tw (isO w) (isE w)) (ixOf d) = bd vs ys (ixOf d))) = sameB ws (xs ++ tw (isO w) (isE w)) vs ys (topN ws.length xs ys) := by
    rw [Bool.eq_iff_iff, sameB_iff hw, List.all_eq_true]
    constructor
    · intro hh n n0 n1
      have := hh (.int (n : Nat)) (List.mem_map.mpr ⟨n - 1, List.mem_range.mpr (by omega), by congr 1; omega⟩)
      exact decide_eq_true_eq.mp this
    · intro hh d hd
      obtain ⟨n, rfl, n0, n1⟩ := numsN_mem hd
      exact decide_eq_true_eq.mpr (hh n n0 n1)
  have hba := bAll_map (S := S) (fun d => decide (bd ws (xs ++ tw (isO w) (isE w)) (ixOf d) = bd vs ys (ixOf d))) (numsN (topN ws.length xs ys))
  rw [hall] at hba
  have hlo := lst_own hf
  have hap := app_own (d := .str w) hf (by omega)
  refine ⟨some (.lst (numsN (topN ws.length xs ys))), y5, ?_⟩
  rw [sSeq_eq, t1, seqS_nx]
  have hc : semCall bAll (semCons (semLc finD (semItems (semVar 4)) [5] (gNm 5) (semC (.bl true)) (sem2 opEq (semCall (fun ds S => if ds.length = 2 then g_turned ds S else .no) (semCons (semCall (fun ds S => if ds.length = 2 then g_board_of ds S else .no) (semCons (semVar 0) (semCons (semVar 5) semNil))) (semCons (semVar 3) semNil))) (semCall (fun ds S => if ds.length = 2 then g_board_of ds S else .no) (semCons (semVar 1) (semCons (semVar 5) semNil))))) semNil) [some (planD ws xs), some (planD vs ys), some (.own f), some (.str w), some (.lst (numsN (topN ws.length xs ys))), y5] S = .ok (.bl (sameB ws (xs ++ tw (isO w) (isE w)) vs ys (topN ws.length xs ys))) S := by
    rw [semCall_eq, semCons_eq, semLc_eq, semItems_eq, semVar_eq]
    simp only [List.getElem?_cons_zero, List.getElem?_cons_succ, bind_ok, bItems_lst, kl, hnl, if_true, hwp]
    rw [key]
    simp only [bind_ok, finD_eq, semNil_eq, hba]
  rw [tuB2, sIf_eq, hc, toS_ok, brS_bl]
  cases hb : sameB ws (xs ++ tw (isO w) (isE w)) vs ys (topN ws.length xs ys) with
  | true => simp [semApp, hlo, hap]
  | false => simp
theorem turns_eq {ws vs : List D} {xs ys : List Deed} {S : Sto} (h : Pln ws xs) (g : Pln vs ys) (hl : xs.length ≤ 6) (gl : ys.length ≤ 6) (hw : ws.length = vs.length) (ht : topN ws.length xs ys ≤ 10000) : g_turns [planD ws xs, planD vs ys] S = .ok (.own S.length) (S ++ [.lst ((turnL ws xs vs ys (topN ws.length xs ys)).map .str)]) := by
  have h1 := pln_need (S := S) h g hl gl
  rw [if_pos hw] at h1
  have e0 : g_turns [planD ws xs, planD vs ys] S = finR (sSeq (sExpr (semCall (fun ds S => if ds.length = 2 then g_need_both ds S else .no) (semCons (semVar 0) (semCons (semVar 1) semNil)))) (sSeq (sAsg (semLstO semNil) (gNm 2)) (sSeq (sFor (semItems (semC (tupS ["both", "ends", "none", "over"]))) (gNm 3) (sSeq tuB1 tuB2)) (sRet (semVar 2)))) [some (planD ws xs), some (planD vs ys), none, none, none, none] S) := rfl
  have hit : semItems (semC (tupS ["both", "ends", "none", "over"])) [some (planD ws xs), some (planD vs ys), some (.own S.length), none, none, none] (S ++ [.lst []]) = .ok (twords.map .str) (S ++ [.lst []]) := rfl
  have loop : ∀ (ls done : List Str) (y3 y4 y5 : Option D), (∀ w ∈ ls, w ∈ twords) → done.length + ls.length ≤ 4 → ∃ z3 z4 z5, sLoop (gNm 3) (sSeq tuB1 tuB2) (ls.map .str) [some (planD ws xs), some (planD vs ys), some (.own S.length), y3, y4, y5] (S ++ [.lst (done.map .str)]) = .nx [some (planD ws xs), some (planD vs ys), some (.own S.length), z3, z4, z5] (S ++ [.lst ((done ++ ls.filter fun w => sameB ws (xs ++ tw (isO w) (isE w)) vs ys (topN ws.length xs ys)).map .str)]) := by
    intro ls
    induction ls with
    | nil => intro done y3 y4 y5 _ _; exact ⟨y3, y4, y5, by simp [sLoop]⟩
    | cons w ls ih =>
      intro done y3 y4 y5 hls hlen
      obtain ⟨z4, z5, e1⟩ := turns_step (S := S ++ [.lst (done.map .str)]) (f := S.length) (L := done.map .str) (w := w) (y4 := y4) (y5 := y5) h g hw ht (hls w (List.mem_cons_self ..)) (get_last _ _) (by simp at hlen ⊢; omega)
      have e2 : (if sameB ws (xs ++ tw (isO w) (isE w)) vs ys (topN ws.length xs ys) = true then (S ++ [O.lst (done.map D.str)]).set S.length (.lst (done.map D.str ++ [.str w])) else S ++ [.lst (done.map D.str)]) = S ++ [.lst ((done ++ [w].filter fun w => sameB ws (xs ++ tw (isO w) (isE w)) vs ys (topN ws.length xs ys)).map .str)] := by
        cases hb : sameB ws (xs ++ tw (isO w) (isE w)) vs ys (topN ws.length xs ys) with
        | true =>
          rw [if_pos rfl, set_last]
          simp [hb]
        | false => simp [hb]
      rw [e2] at e1
      obtain ⟨a3, a4, a5, e3⟩ := ih (done ++ [w].filter fun w => sameB ws (xs ++ tw (isO w) (isE w)) vs ys (topN ws.length xs ys)) (some (.str w)) z4 z5 (fun v hv => hls v (List.mem_cons_of_mem _ hv)) (by
        have := List.length_filter_le (fun w => sameB ws (xs ++ tw (isO w) (isE w)) vs ys (topN ws.length xs ys)) [w]
        simp at hlen this ⊢; omega)
      refine ⟨a3, a4, a5, ?_⟩
      rw [List.map_cons]
      refine (sLoop_step (ρ1 := [some (planD ws xs), some (planD vs ys), some (.own S.length), some (.str w), y4, y5]) rfl e1).trans ?_
      rw [e3]
      have : (w :: ls).filter (fun w => sameB ws (xs ++ tw (isO w) (isE w)) vs ys (topN ws.length xs ys)) = [w].filter (fun w => sameB ws (xs ++ tw (isO w) (isE w)) vs ys (topN ws.length xs ys)) ++ ls.filter (fun w => sameB ws (xs ++ tw (isO w) (isE w)) vs ys (topN ws.length xs ys)) := by
        rw [← List.filter_append]; rfl
      rw [this, List.append_assoc]
  obtain ⟨z3, z4, z5, e1⟩ := loop twords [] none none none (fun w hw => hw) (by decide)
  rw [List.nil_append] at e1
  have t1 : sExpr (semCall (fun ds S => if ds.length = 2 then g_need_both ds S else .no) (semCons (semVar 0) (semCons (semVar 1) semNil))) [some (planD ws xs), some (planD vs ys), none, none, none, none] S = .nx [some (planD ws xs), some (planD vs ys), none, none, none, none] S := by
    simp [h1]
  have t2 : sAsg (semLstO semNil) (gNm 2) [some (planD ws xs), some (planD vs ys), none, none, none, none] S = .nx [some (planD ws xs), some (planD vs ys), some (.own S.length), none, none, none] (S ++ [.lst []]) := by simp
  rw [e0, sSeq_eq, t1, seqS_nx, sSeq_eq, t2, seqS_nx, sSeq_eq, sFor_ok hit]
  have e2 : sLoop (gNm 3) (sSeq tuB1 tuB2) (twords.map .str) [some (planD ws xs), some (planD vs ys), some (.own S.length), none, none, none] (S ++ [.lst []]) = _ := e1
  rw [e2, seqS_nx]
  rfl
/-- a first place is there, or none, whatever the number up to which it is looked for, from one number on -/
theorem part_top {ws vs : List D} {xs ys : List Deed} (h : Pln ws xs) (g : Pln vs ys) (hl : ws.length = vs.length) {T : Nat} (hT : topN ws.length xs ys ≤ T) : partD ws xs vs ys T = partD ws xs vs ys (topN ws.length xs ys) := by
  have e : numsN T = numsN (topN ws.length xs ys) ++ ((List.range' (topN ws.length xs ys) (T - topN ws.length xs ys)).map fun i => .int (1 + (i : Nat))) := by
    unfold numsN
    rw [← List.map_append, List.range_eq_range', List.range_eq_range', show List.range' 0 (topN ws.length xs ys) ++ List.range' (topN ws.length xs ys) (T - topN ws.length xs ys) = List.range' 0 T from by
      have := List.range'_append_1 (s := 0) (m := topN ws.length xs ys) (n := T - topN ws.length xs ys)
      rw [Nat.zero_add] at this
      rw [this]; congr 1; omega]
  cases hp : partD ws xs vs ys (topN ws.length xs ys) with
  | some d =>
    unfold partD at hp ⊢
    rw [e, List.findSome?_append, hp]; rfl
  | none =>
    have h1 := (partD_none hl).mp hp
    rw [partD_none hl]
    intro n n0 _
    have d1 := per_12 h.w0 h.w1 h.x
    have d2 := per_12 g.w0 g.w1 g.x
    rw [← hl] at d2
    exact same_from h g hl (F := max (far ws.length xs) (far ws.length ys)) (P := Nat.lcm (per ws.length xs) (per ws.length ys)) (T := topN ws.length xs ys) (by omega) (by omega) (Nat.dvd_lcm_left _ _) (Nat.dvd_lcm_right _ _) (Nat.lcm_pos (le_12 d1).1 (le_12 d2).1) (by unfold topN; omega) h1 n n0
theorem same_top {ws vs : List D} {xs ys : List Deed} (h : Pln ws xs) (g : Pln vs ys) (hl : ws.length = vs.length) {T : Nat} (hT : topN ws.length xs ys ≤ T) : sameB ws xs vs ys T = sameB ws xs vs ys (topN ws.length xs ys) := by
  rw [← none_same hl, ← none_same hl, part_top h g hl hT]
theorem topN_turn {m : Nat} {xs ys : List Deed} (o e : Bool) : topN m (xs ++ tw o e) ys = topN m xs ys := by
  unfold topN; rw [far_turn, per_turn]
theorem topN_le {ws vs : List D} {xs ys : List Deed} (h : Pln ws xs) (g : Pln vs ys) (hw : ws.length = vs.length) : topN ws.length xs ys ≤ 12 * max xs.length ys.length + 24 := by
  have f1 := far_le h.w1 h.x
  have f2 := far_le g.w1 g.x
  rw [← hw] at f2
  have d1 := per_12 h.w0 h.w1 h.x
  have d2 := per_12 g.w0 g.w1 g.x
  rw [← hw] at d2
  have := (le_12 (lcm_12 d1 d2)).2
  unfold topN; omega
end Sh
namespace K06
open PySem L2 PyProof.Rows GB Sh
def tkL : List (Str × Str × Bool) := [("InvalidPlan", "BoardError", true), ("InvalidPlan", "Unlike", false), ("Unlike", "BoardError", true), ("Unlike", "Unlike", true)]
abbrev tk : Str → Str → Option Bool := tkOf tkL
noncomputable def sem__law_top : SemS := (sSeq (sPar [2, 3] (semCons (semCall (fun ds S => if ds.length = 1 then g__law_bounds ds S else .no) (semCons (semVar 0) semNil)) (semCons (semCall (fun ds S => if ds.length = 1 then g__law_bounds ds S else .no) (semCons (semVar 1) semNil)) semNil))) (sRet (sem2 opAdd (sem2 opMul (semC (.int 2)) (semCall bMax (semCons (sem2 opIx (semVar 2) (semC (.int 1))) (semCons (sem2 opIx (semVar 3) (semC (.int 1))) semNil)))) (sem2 opMul (sem2 opMul (semC (.int 2)) (sem2 opIx (semVar 2) (semC (.int 0)))) (sem2 opIx (semVar 3) (semC (.int 0)))))))
noncomputable def g__law_top : List D → Sto → R D := semFn 4 sem__law_top
noncomputable def sem__law_first : SemS := (sSeq (sFor (semArg bRange1 (semCons (semCall bLen (semCons (semVar 0) semNil)) semNil)) (gNm 2) (sFor (semArg bRange1 (semCons (semCall bLen (semCons (sem2 opIx (semVar 0) (semC (.int 0))) semNil)) semNil)) (gNm 3) (sIf (sem2 opNe (sem2 opIx (sem2 opIx (semVar 0) (semVar 2)) (semVar 3)) (sem2 opIx (sem2 opIx (semVar 1) (semVar 2)) (semVar 3))) (sRet (semTup (semCons (semCall bLen (semCons (sem2 opIx (semVar 0) (semC (.int 0))) semNil)) (semCons (semVar 2) (semCons (semVar 3) semNil))))) sNil))) (sRet (semC .non)))
noncomputable def g__law_first : List D → Sto → R D := semFn 4 sem__law_first
noncomputable def sem__law_turned : SemS := (sSeq (sAsg (semIte (sem2 opIn (semVar 1) (semTup (semCons (semC (.str "both")) (semCons (semC (.str "over")) semNil)))) (sem1 opRev (semVar 0)) (semVar 0)) (gNm 2)) (sRet (semIte (sem2 opIn (semVar 1) (semTup (semCons (semC (.str "both")) (semCons (semC (.str "ends")) semNil)))) (semCall bTuple (semCons (semLc finD (semItems (semVar 2)) [3] (gNm 3) (semC (.bl true)) (sem1 opRev (semVar 3))) semNil)) (semVar 2))))
noncomputable def g__law_turned : List D → Sto → R D := semFn 4 sem__law_turned
noncomputable def sem__law_other : SemS := (sSeq (sAsg (semVar 1) (gTp [2, 3])) (sSeq (sPar [4, 5] (semCons (semCall (fun ds S => if ds.length = 2 then g__law_saw ds S else .no) (semCons (semVar 0) (semCons (sem2 opAdd (semCall bLen (semCons (semVar 3) semNil)) (semC (.int 1))) semNil))) (semCons (semCall (fun ds S => if ds.length = 2 then g__law_saw ds S else .no) (semCons (semVar 0) (semCons (semC (.int 5)) semNil))) semNil))) (sSeq (sIf (sem2 opEq (semVar 5) (semC (.int 0))) (sRet (semTup (semCons (semVar 2) (semCons (sem2 opAdd (semSl (semVar 3) .no (.e (semVar 4))) (semSl (semVar 3) (.e (sem2 opAdd (semVar 4) (semC (.int 1)))) .no)) semNil)))) sNil) (sSeq (sIf (semAnd (sem2 opEq (semVar 5) (semC (.int 1))) (sem2 opLt (semCall bLen (semCons (semVar 3) semNil)) (semC (.int 6)))) (sRet (semTup (semCons (semVar 2) (semCons (sem2 opAdd (semVar 3) (semTup (semCons (semCall (fun ds S => if ds.length = 2 then g__law_pick ds S else .no) (semCons (semVar 0) (semCons (semLst (semCons (semTup (semCons (semC (.str "slices")) (semCons (semC (.str "back")) semNil))) (semCons (semTup (semCons (semC (.str "rows")) (semCons (semC (.str "back")) semNil))) semNil))) semNil))) semNil))) semNil)))) sNil) (sSeq (sIf (semAnd (sem2 opEq (semVar 5) (semC (.int 2))) (sem2 opLt (semCall bLen (semCons (semVar 3) semNil)) (semC (.int 5)))) (sSeq (sAsg (semCall (fun ds S => if ds.length = 1 then g__law_deed ds S else .no) (semCons (semVar 0) semNil)) (gNm 6)) (sSeq (sAsg (semIte (sem2 opIn (sem2 opIx (semVar 6) (semC (.int 1))) (semTup (semCons (semC (.str "turn")) (semCons (semC (.str "back")) semNil)))) (semVar 6) (sem2 opAdd (semSl (semVar 6) .no (.e (semC (.int 2)))) (semTup (semCons (sem1 opNeg (sem2 opIx (semVar 6) (semC (.int 2)))) semNil)))) (gNm 7)) (sRet (semTup (semCons (semVar 2) (semCons (sem2 opAdd (sem2 opAdd (semSl (semVar 3) .no (.e (semVar 4))) (semTup (semCons (semVar 6) (semCons (semVar 7) semNil)))) (semSl (semVar 3) (.e (semVar 4)) .no)) semNil)))))) sNil) (sSeq (sIf (sem2 opEq (semVar 5) (semC (.int 3))) (sRet (semTup (semCons (semVar 2) (semCons (sem2 opAdd (sem2 opAdd (semSl (semVar 3) .no (.e (semVar 4))) (sem1 opRev (semSl (semVar 3) (.e (semVar 4)) (.e (sem2 opAdd (semVar 4) (semC (.int 2))))))) (semSl (semVar 3) (.e (sem2 opAdd (semVar 4) (semC (.int 2)))) .no)) semNil)))) sNil) (sRet (semTup (semCons (semVar 2) (semCons (sem2 opAdd (sem2 opAdd (semSl (semVar 3) .no (.e (semVar 4))) (semTup (semCons (semCall (fun ds S => if ds.length = 1 then g__law_deed ds S else .no) (semCons (semVar 0) semNil)) semNil))) (semSl (semVar 3) (.e (sem2 opAdd (semVar 4) (semC (.int 1)))) .no)) semNil))))))))))
noncomputable def g__law_other : List D → Sto → R D := semFn 8 sem__law_other
noncomputable def sem__law_right : SemS := (sSeq (sPar [5, 6] (semCons (semLst semNil) (semCons (semLst (semCons (semC (.str "both")) (semCons (semC (.str "ends")) (semCons (semC (.str "none")) (semCons (semC (.str "over")) semNil))))) semNil))) (sSeq (sFor (semArg bRange2 (semCons (semC (.int 1)) (semCons (sem2 opAdd (semCall (fun ds S => if ds.length = 2 then g__law_top ds S else .no) (semCons (semVar 0) (semCons (semVar 1) semNil))) (semC (.int 1))) semNil))) (gNm 2) (sSeq (sAsg (semTup (semCons (semCall (fun ds S => if ds.length = 2 then g__law_board ds S else .no) (semCons (semVar 0) (semCons (semVar 2) semNil))) (semCons (semCall (fun ds S => if ds.length = 2 then g__law_board ds S else .no) (semCons (semVar 1) (semCons (semVar 2) semNil))) semNil))) (gTp [7, 8])) (sSeq (sIf (sem2 opEq (semVar 5) (semLst semNil)) (sAsg (semLc finD (semItems (semLst (semCons (semCall (fun ds S => if ds.length = 2 then g__law_first ds S else .no) (semCons (semVar 7) (semCons (semVar 8) semNil))) semNil))) [10] (gNm 10) (sem2 opIsNot (semVar 10) (semC .non)) (semVar 10)) (gNm 5)) sNil) (sAsg (semLc finD (semItems (semVar 6)) [9] (gNm 9) (sem2 opEq (semCall (fun ds S => if ds.length = 2 then g__law_turned ds S else .no) (semCons (semVar 7) (semCons (semVar 9) semNil))) (semVar 8)) (semVar 9)) (gNm 6))))) (sSeq (sAsg (semIte (sem2 opNe (semVar 5) (semLst semNil)) (sem2 opIx (semVar 5) (semC (.int 0))) (semC .non)) (gNm 3)) (sSeq (sAsg (semCall (fun ds S => if ds.length = 2 then g_alike ds S else .no) (semCons (semVar 0) (semCons (semVar 1) semNil))) (gNm 4)) (sSeq (sIf (semOr (sem1 opNot (semCall bIsi (semCons (semVar 4) (semCons (semC (.ty .bool)) semNil)))) (semOr (sem2 opNe (semVar 4) (sem2 opIs (semVar 3) (semC .non))) (sem2 opNe (semCall (fun ds S => if ds.length = 2 then g_parting ds S else .no) (semCons (semVar 0) (semCons (semVar 1) semNil))) (semVar 3)))) (sRet (semC (.bl false))) sNil) (sRet (sem2 opEq (semCall (fun ds S => if ds.length = 2 then g_turns ds S else .no) (semCons (semVar 0) (semCons (semVar 1) semNil))) (semVar 6))))))))
noncomputable def g__law_right : List D → Sto → R D := semFn 11 sem__law_right
noncomputable def sem__law_refused : SemS := (sSeq (sAsg (semLstO semNil) (gNm 2)) (sSeq (sFor (semItems (semTup (semCons (semC (.gl "alike")) (semCons (semC (.gl "parting")) (semCons (semC (.gl "turns")) semNil))))) (gNm 3) (sTry tk (sExpr (semCallL 3 [("alike", 2, g_alike), ("parting", 2, g_parting), ("turns", 2, g_turns)] (semCons (semVar 0) (semCons (semVar 1) semNil)))) [("Unlike", (sExpr (semApp (semVar 2) (semC (.str "unlike"))))), ("BoardError", (sExpr (semApp (semVar 2) (semC (.str "else")))))])) (sRet (sem2 opEq (semVar 2) (sem2 opMul (semLst (semCons (semC (.str "unlike")) semNil)) (semC (.int 3)))))))
noncomputable def g__law_refused : List D → Sto → R D := semFn 4 sem__law_refused
noncomputable def sem_law : SemS := (sSeq (sFor (semItems (semSl (sem2 opAdd (semLst (semCons (semC (.int 0)) semNil)) (semVar 0)) .no (.e (semC (.int 5))))) (gNm 1) (sSeq (sAsg (semCall (fun ds S => if ds.length = 2 then g__law_stack ds S else .no) (semCons (semVar 1) (semCons (semC (.int 33)) semNil))) (gNm 4)) (sSeq (sAsg (semCall (fun ds S => if ds.length = 3 then g__law_plan ds S else .no) (semCons (semVar 4) (semCons (semC (.int 3)) (semCons (semC (.int 3)) semNil)))) (gNm 5)) (sSeq (sFor (semItems (semTup (semCons (semCall (fun ds S => if ds.length = 2 then g__law_other ds S else .no) (semCons (semVar 4) (semCons (semVar 5) semNil))) (semCons (semCall (fun ds S => if ds.length = 2 then g__law_other ds S else .no) (semCons (semVar 4) (semCons (semCall (fun ds S => if ds.length = 2 then g__law_other ds S else .no) (semCons (semVar 4) (semCons (semVar 5) semNil))) semNil))) (semCons (semVar 5) semNil))))) (gNm 6) (sIf (semAnd (sem2 opLt (semCall bLen (semCons (sem2 opIx (semVar 6) (semC (.int 1))) semNil)) (semC (.int 7))) (sem1 opNot (semCall (fun ds S => if ds.length = 2 then g__law_right ds S else .no) (semCons (semVar 5) (semCons (semVar 6) semNil))))) (sRet (semC (.bl false))) sNil)) (sSeq (sAsg (semTup (semCons (sem2 opAdd (sem2 opIx (semVar 5) (semC (.int 0))) (semTup (semCons (semC (.str "d")) semNil))) (semCons (sem2 opIx (semVar 5) (semC (.int 1))) semNil))) (gNm 7)) (sIf (semOr (sem1 opNot (semCall (fun ds S => if ds.length = 2 then g__law_refused ds S else .no) (semCons (semVar 5) (semCons (semVar 7) semNil)))) (sem1 opNot (semCall (fun ds S => if ds.length = 2 then g__law_refused ds S else .no) (semCons (semVar 7) (semCons (semVar 5) semNil))))) (sRet (semC (.bl false))) sNil)))))) (sSeq (sAsg (semTup (semCons (semTup (semCons (semC (.str "a")) (semCons (semC (.str "b")) semNil))) (semCons (semTup (semCons (semTup (semCons (semC (.str "slices")) (semCons (semC (.str "turn")) (semCons (semC (.int 2)) (semCons (semC (.int 1)) semNil))))) semNil)) semNil))) (gNm 2)) (sSeq (sIf (sem2 opNe (semCall (fun ds S => if ds.length = 2 then g_turns ds S else .no) (semCons (semVar 2) (semCons (semTup (semCons (semTup (semCons (semC (.str "a")) (semCons (semC (.str "b")) semNil))) (semCons (semTup (semCons (semTup (semCons (semC (.str "slices")) (semCons (semC (.str "turn")) (semCons (semC (.int 2)) (semCons (semC (.int 0)) semNil))))) semNil)) semNil))) semNil))) (semLst (semCons (semC (.str "over")) semNil))) (sRet (semC (.bl false))) sNil) (sSeq (sAsg (semTup (semCons (semTup (semCons (semC (.str "a")) (semCons (semC (.str "b")) semNil))) (semCons (semTup (semCons (semTup (semCons (semC (.str "slices")) (semCons (semC (.str "turn")) (semCons (semC (.int 2)) (semCons (semC (.int 1)) semNil))))) (semCons (semTup (semCons (semC (.str "slices")) (semCons (semC (.str "roll")) (semCons (semC (.int 1)) semNil)))) semNil))) semNil))) (gNm 3)) (sRet (semAnd (sem2 opEq (semCall (fun ds S => if ds.length = 2 then g_parting ds S else .no) (semCons (semVar 2) (semCons (semVar 3) semNil))) (semTup (semCons (semC (.int 2)) (semCons (semC (.int 0)) (semCons (semC (.int 0)) semNil))))) (sem2 opIs (semCall (fun ds S => if ds.length = 2 then g_parting ds S else .no) (semCons (semVar 3) (semCons (semVar 3) semNil))) (semC .non))))))))
noncomputable def g_law : List D → Sto → R D := semFn 8 sem_law
end K06
namespace K06
open PySem L2 GB Sh
noncomputable abbrev lr1 : SemS := (sPar [5, 6] (semCons (semLst semNil) (semCons (semLst (semCons (semC (.str "both")) (semCons (semC (.str "ends")) (semCons (semC (.str "none")) (semCons (semC (.str "over")) semNil))))) semNil)))
noncomputable abbrev lr2i : SemA := (semArg bRange2 (semCons (semC (.int 1)) (semCons (sem2 opAdd (semCall (fun ds S => if ds.length = 2 then g__law_top ds S else .no) (semCons (semVar 0) (semCons (semVar 1) semNil))) (semC (.int 1))) semNil)))
noncomputable abbrev lr2b1 : SemS := (sAsg (semTup (semCons (semCall (fun ds S => if ds.length = 2 then g__law_board ds S else .no) (semCons (semVar 0) (semCons (semVar 2) semNil))) (semCons (semCall (fun ds S => if ds.length = 2 then g__law_board ds S else .no) (semCons (semVar 1) (semCons (semVar 2) semNil))) semNil))) (gTp [7, 8]))
noncomputable abbrev lr2b2 : SemS := (sIf (sem2 opEq (semVar 5) (semLst semNil)) (sAsg (semLc finD (semItems (semLst (semCons (semCall (fun ds S => if ds.length = 2 then g__law_first ds S else .no) (semCons (semVar 7) (semCons (semVar 8) semNil))) semNil))) [10] (gNm 10) (sem2 opIsNot (semVar 10) (semC .non)) (semVar 10)) (gNm 5)) sNil)
noncomputable abbrev lr2b3 : SemS := (sAsg (semLc finD (semItems (semVar 6)) [9] (gNm 9) (sem2 opEq (semCall (fun ds S => if ds.length = 2 then g__law_turned ds S else .no) (semCons (semVar 7) (semCons (semVar 9) semNil))) (semVar 8)) (semVar 9)) (gNm 6))
noncomputable abbrev lr2b : SemS := (sSeq lr2b1 (sSeq lr2b2 lr2b3))
noncomputable abbrev lr2 : SemS := (sFor lr2i (gNm 2) lr2b)
noncomputable abbrev lr3 : SemS := (sAsg (semIte (sem2 opNe (semVar 5) (semLst semNil)) (sem2 opIx (semVar 5) (semC (.int 0))) (semC .non)) (gNm 3))
noncomputable abbrev lr4 : SemS := (sAsg (semCall (fun ds S => if ds.length = 2 then g_alike ds S else .no) (semCons (semVar 0) (semCons (semVar 1) semNil))) (gNm 4))
noncomputable abbrev lr5 : SemS := (sIf (semOr (sem1 opNot (semCall bIsi (semCons (semVar 4) (semCons (semC (.ty .bool)) semNil)))) (semOr (sem2 opNe (semVar 4) (sem2 opIs (semVar 3) (semC .non))) (sem2 opNe (semCall (fun ds S => if ds.length = 2 then g_parting ds S else .no) (semCons (semVar 0) (semCons (semVar 1) semNil))) (semVar 3)))) (sRet (semC (.bl false))) sNil)
noncomputable abbrev lr6 : SemS := (sRet (sem2 opEq (semCall (fun ds S => if ds.length = 2 then g_turns ds S else .no) (semCons (semVar 0) (semCons (semVar 1) semNil))) (semVar 6)))
noncomputable abbrev lr : SemS := (sSeq lr1 (sSeq lr2 (sSeq lr3 (sSeq lr4 (sSeq lr5 lr6)))))
noncomputable abbrev lo1 : SemS := (sAsg (semVar 1) (gTp [2, 3]))
noncomputable abbrev lo2 : SemS := (sPar [4, 5] (semCons (semCall (fun ds S => if ds.length = 2 then g__law_saw ds S else .no) (semCons (semVar 0) (semCons (sem2 opAdd (semCall bLen (semCons (semVar 3) semNil)) (semC (.int 1))) semNil))) (semCons (semCall (fun ds S => if ds.length = 2 then g__law_saw ds S else .no) (semCons (semVar 0) (semCons (semC (.int 5)) semNil))) semNil)))
noncomputable abbrev lo3 : SemS := (sIf (sem2 opEq (semVar 5) (semC (.int 0))) (sRet (semTup (semCons (semVar 2) (semCons (sem2 opAdd (semSl (semVar 3) .no (.e (semVar 4))) (semSl (semVar 3) (.e (sem2 opAdd (semVar 4) (semC (.int 1)))) .no)) semNil)))) sNil)
noncomputable abbrev lo4 : SemS := (sIf (semAnd (sem2 opEq (semVar 5) (semC (.int 1))) (sem2 opLt (semCall bLen (semCons (semVar 3) semNil)) (semC (.int 6)))) (sRet (semTup (semCons (semVar 2) (semCons (sem2 opAdd (semVar 3) (semTup (semCons (semCall (fun ds S => if ds.length = 2 then g__law_pick ds S else .no) (semCons (semVar 0) (semCons (semLst (semCons (semTup (semCons (semC (.str "slices")) (semCons (semC (.str "back")) semNil))) (semCons (semTup (semCons (semC (.str "rows")) (semCons (semC (.str "back")) semNil))) semNil))) semNil))) semNil))) semNil)))) sNil)
noncomputable abbrev lo5 : SemS := (sIf (semAnd (sem2 opEq (semVar 5) (semC (.int 2))) (sem2 opLt (semCall bLen (semCons (semVar 3) semNil)) (semC (.int 5)))) (sSeq (sAsg (semCall (fun ds S => if ds.length = 1 then g__law_deed ds S else .no) (semCons (semVar 0) semNil)) (gNm 6)) (sSeq (sAsg (semIte (sem2 opIn (sem2 opIx (semVar 6) (semC (.int 1))) (semTup (semCons (semC (.str "turn")) (semCons (semC (.str "back")) semNil)))) (semVar 6) (sem2 opAdd (semSl (semVar 6) .no (.e (semC (.int 2)))) (semTup (semCons (sem1 opNeg (sem2 opIx (semVar 6) (semC (.int 2)))) semNil)))) (gNm 7)) (sRet (semTup (semCons (semVar 2) (semCons (sem2 opAdd (sem2 opAdd (semSl (semVar 3) .no (.e (semVar 4))) (semTup (semCons (semVar 6) (semCons (semVar 7) semNil)))) (semSl (semVar 3) (.e (semVar 4)) .no)) semNil)))))) sNil)
noncomputable abbrev lo6 : SemS := (sIf (sem2 opEq (semVar 5) (semC (.int 3))) (sRet (semTup (semCons (semVar 2) (semCons (sem2 opAdd (sem2 opAdd (semSl (semVar 3) .no (.e (semVar 4))) (sem1 opRev (semSl (semVar 3) (.e (semVar 4)) (.e (sem2 opAdd (semVar 4) (semC (.int 2))))))) (semSl (semVar 3) (.e (sem2 opAdd (semVar 4) (semC (.int 2)))) .no)) semNil)))) sNil)
noncomputable abbrev lo7 : SemS := (sRet (semTup (semCons (semVar 2) (semCons (sem2 opAdd (sem2 opAdd (semSl (semVar 3) .no (.e (semVar 4))) (semTup (semCons (semCall (fun ds S => if ds.length = 1 then g__law_deed ds S else .no) (semCons (semVar 0) semNil)) semNil))) (semSl (semVar 3) (.e (sem2 opAdd (semVar 4) (semC (.int 1)))) .no)) semNil))))
noncomputable abbrev lo : SemS := (sSeq lo1 (sSeq lo2 (sSeq lo3 (sSeq lo4 (sSeq lo5 (sSeq lo6 lo7))))))
noncomputable abbrev lf1i : SemA := (semArg bRange1 (semCons (semCall bLen (semCons (semVar 0) semNil)) semNil))
noncomputable abbrev lf1bi : SemA := (semArg bRange1 (semCons (semCall bLen (semCons (sem2 opIx (semVar 0) (semC (.int 0))) semNil)) semNil))
noncomputable abbrev lf1bb : SemS := (sIf (sem2 opNe (sem2 opIx (sem2 opIx (semVar 0) (semVar 2)) (semVar 3)) (sem2 opIx (sem2 opIx (semVar 1) (semVar 2)) (semVar 3))) (sRet (semTup (semCons (semCall bLen (semCons (sem2 opIx (semVar 0) (semC (.int 0))) semNil)) (semCons (semVar 2) (semCons (semVar 3) semNil))))) sNil)
noncomputable abbrev lf1b : SemS := (sFor lf1bi (gNm 3) lf1bb)
noncomputable abbrev lf1 : SemS := (sFor lf1i (gNm 2) lf1b)
noncomputable abbrev lf2 : SemS := (sRet (semC .non))
noncomputable abbrev lf : SemS := (sSeq lf1 lf2)
noncomputable abbrev lu1 : SemS := (sAsg (semLstO semNil) (gNm 2))
noncomputable abbrev lu2i : SemA := (semItems (semTup (semCons (semC (.gl "alike")) (semCons (semC (.gl "parting")) (semCons (semC (.gl "turns")) semNil)))))
noncomputable abbrev lu2b : SemS := (sTry tk (sExpr (semCallL 3 [("alike", 2, g_alike), ("parting", 2, g_parting), ("turns", 2, g_turns)] (semCons (semVar 0) (semCons (semVar 1) semNil)))) [("Unlike", (sExpr (semApp (semVar 2) (semC (.str "unlike"))))), ("BoardError", (sExpr (semApp (semVar 2) (semC (.str "else")))))])
noncomputable abbrev lu2 : SemS := (sFor lu2i (gNm 3) lu2b)
noncomputable abbrev lu3 : SemS := (sRet (sem2 opEq (semVar 2) (sem2 opMul (semLst (semCons (semC (.str "unlike")) semNil)) (semC (.int 3)))))
noncomputable abbrev lu : SemS := (sSeq lu1 (sSeq lu2 lu3))
noncomputable abbrev lw1i : SemA := (semItems (semSl (sem2 opAdd (semLst (semCons (semC (.int 0)) semNil)) (semVar 0)) .no (.e (semC (.int 5)))))
noncomputable abbrev lw1b1 : SemS := (sAsg (semCall (fun ds S => if ds.length = 2 then g__law_stack ds S else .no) (semCons (semVar 1) (semCons (semC (.int 33)) semNil))) (gNm 4))
noncomputable abbrev lw1b2 : SemS := (sAsg (semCall (fun ds S => if ds.length = 3 then g__law_plan ds S else .no) (semCons (semVar 4) (semCons (semC (.int 3)) (semCons (semC (.int 3)) semNil)))) (gNm 5))
noncomputable abbrev lw1b3i : SemA := (semItems (semTup (semCons (semCall (fun ds S => if ds.length = 2 then g__law_other ds S else .no) (semCons (semVar 4) (semCons (semVar 5) semNil))) (semCons (semCall (fun ds S => if ds.length = 2 then g__law_other ds S else .no) (semCons (semVar 4) (semCons (semCall (fun ds S => if ds.length = 2 then g__law_other ds S else .no) (semCons (semVar 4) (semCons (semVar 5) semNil))) semNil))) (semCons (semVar 5) semNil)))))
noncomputable abbrev lw1b3b : SemS := (sIf (semAnd (sem2 opLt (semCall bLen (semCons (sem2 opIx (semVar 6) (semC (.int 1))) semNil)) (semC (.int 7))) (sem1 opNot (semCall (fun ds S => if ds.length = 2 then g__law_right ds S else .no) (semCons (semVar 5) (semCons (semVar 6) semNil))))) (sRet (semC (.bl false))) sNil)
noncomputable abbrev lw1b3 : SemS := (sFor lw1b3i (gNm 6) lw1b3b)
noncomputable abbrev lw1b4 : SemS := (sAsg (semTup (semCons (sem2 opAdd (sem2 opIx (semVar 5) (semC (.int 0))) (semTup (semCons (semC (.str "d")) semNil))) (semCons (sem2 opIx (semVar 5) (semC (.int 1))) semNil))) (gNm 7))
noncomputable abbrev lw1b5 : SemS := (sIf (semOr (sem1 opNot (semCall (fun ds S => if ds.length = 2 then g__law_refused ds S else .no) (semCons (semVar 5) (semCons (semVar 7) semNil)))) (sem1 opNot (semCall (fun ds S => if ds.length = 2 then g__law_refused ds S else .no) (semCons (semVar 7) (semCons (semVar 5) semNil))))) (sRet (semC (.bl false))) sNil)
noncomputable abbrev lw1b : SemS := (sSeq lw1b1 (sSeq lw1b2 (sSeq lw1b3 (sSeq lw1b4 lw1b5))))
noncomputable abbrev lw1 : SemS := (sFor lw1i (gNm 1) lw1b)
noncomputable abbrev lw2 : SemS := (sAsg (semTup (semCons (semTup (semCons (semC (.str "a")) (semCons (semC (.str "b")) semNil))) (semCons (semTup (semCons (semTup (semCons (semC (.str "slices")) (semCons (semC (.str "turn")) (semCons (semC (.int 2)) (semCons (semC (.int 1)) semNil))))) semNil)) semNil))) (gNm 2))
noncomputable abbrev lw3 : SemS := (sIf (sem2 opNe (semCall (fun ds S => if ds.length = 2 then g_turns ds S else .no) (semCons (semVar 2) (semCons (semTup (semCons (semTup (semCons (semC (.str "a")) (semCons (semC (.str "b")) semNil))) (semCons (semTup (semCons (semTup (semCons (semC (.str "slices")) (semCons (semC (.str "turn")) (semCons (semC (.int 2)) (semCons (semC (.int 0)) semNil))))) semNil)) semNil))) semNil))) (semLst (semCons (semC (.str "over")) semNil))) (sRet (semC (.bl false))) sNil)
noncomputable abbrev lw4 : SemS := (sAsg (semTup (semCons (semTup (semCons (semC (.str "a")) (semCons (semC (.str "b")) semNil))) (semCons (semTup (semCons (semTup (semCons (semC (.str "slices")) (semCons (semC (.str "turn")) (semCons (semC (.int 2)) (semCons (semC (.int 1)) semNil))))) (semCons (semTup (semCons (semC (.str "slices")) (semCons (semC (.str "roll")) (semCons (semC (.int 1)) semNil)))) semNil))) semNil))) (gNm 3))
noncomputable abbrev lw5 : SemS := (sRet (semAnd (sem2 opEq (semCall (fun ds S => if ds.length = 2 then g_parting ds S else .no) (semCons (semVar 2) (semCons (semVar 3) semNil))) (semTup (semCons (semC (.int 2)) (semCons (semC (.int 0)) (semCons (semC (.int 0)) semNil))))) (sem2 opIs (semCall (fun ds S => if ds.length = 2 then g_parting ds S else .no) (semCons (semVar 3) (semCons (semVar 3) semNil))) (semC .non))))
noncomputable abbrev lw : SemS := (sSeq lw1 (sSeq lw2 (sSeq lw3 (sSeq lw4 lw5))))
/-! ### the law's own reading -/
def lT (m : Nat) (xs ys : List Deed) : Nat := 2 * max (far m xs) (far m ys) + 2 * per m xs * per m ys
noncomputable abbrev ltR : SemS := (sRet (sem2 opAdd (sem2 opMul (semC (.int 2)) (semCall bMax (semCons (sem2 opIx (semVar 2) (semC (.int 1))) (semCons (sem2 opIx (semVar 3) (semC (.int 1))) semNil)))) (sem2 opMul (sem2 opMul (semC (.int 2)) (sem2 opIx (semVar 2) (semC (.int 0)))) (sem2 opIx (semVar 3) (semC (.int 0))))))
theorem lt_tail (x0 x1 : Option D) (p q f g : Int) (S : Sto) (hp : 0 ≤ p ∧ p < 1000) : ltR [x0, x1, some (.tup [.int p, .int f]), some (.tup [.int q, .int g])] S = .rt (.int (2 * (if g > f then g else f) + 2 * p * q)) S := by
  have m1 : ∀ z : Int, opMul (.int 2) (.int z) S = .ok (.int (2 * z)) S := fun z => opMul_small (by omega) (by omega)
  have m3 : ∀ z : Int, opMul (.int (2 * p)) (.int z) S = .ok (.int (2 * p * z)) S := fun z => opMul_small (by omega) (by omega)
  have i0 : ∀ a b : D, opIx (.tup [a, b]) (.int 0) S = .ok a S := fun a b => rfl
  have i1 : ∀ a b : D, opIx (.tup [a, b]) (.int 1) S = .ok b S := fun a b => rfl
  simp only [ltR, sRet_eq, sem2_eq, semCall_eq, semCons_eq, semNil_eq, semVar_eq, semC_eq, List.getElem?_cons_zero, List.getElem?_cons_succ, bind_ok, i0, i1, bMax, m1, m3, opAdd_int, toS_ok]
theorem ltop_eq {ws vs : List D} {xs ys : List Deed} {S : Sto} (h : Pln ws xs) (g : Pln vs ys) (hl : ws.length = vs.length) : g__law_top [planD ws xs, planD vs ys] S = .ok (.int (lT ws.length xs ys)) S := by
  have b1 := law_bounds_eq (S := S) h.w0 h.w1 h.x
  have b2 := law_bounds_eq (S := S) g.w0 g.w1 g.x
  rw [← hl] at b2
  have d1 := (le_12 (per_12 h.w0 h.w1 h.x)).2
  have e0 : g__law_top [planD ws xs, planD vs ys] S = finR (sSeq (sPar [2, 3] (semCons (semCall (fun ds S => if ds.length = 1 then g__law_bounds ds S else .no) (semCons (semVar 0) semNil)) (semCons (semCall (fun ds S => if ds.length = 1 then g__law_bounds ds S else .no) (semCons (semVar 1) semNil)) semNil))) ltR [some (planD ws xs), some (planD vs ys), none, none] S) := rfl
  rw [e0, sSeq_eq]
  have t1 : sPar [2, 3] (semCons (semCall (fun ds S => if ds.length = 1 then g__law_bounds ds S else .no) (semCons (semVar 0) semNil)) (semCons (semCall (fun ds S => if ds.length = 1 then g__law_bounds ds S else .no) (semCons (semVar 1) semNil)) semNil)) [some (planD ws xs), some (planD vs ys), none, none] S = .nx [some (planD ws xs), some (planD vs ys), some (.tup [.int (per ws.length xs), .int (far ws.length xs)]), some (.tup [.int (per ws.length ys), .int (far ws.length ys)])] S := by
    simp [b1, b2]
  rw [t1, seqS_nx, lt_tail _ _ _ _ _ _ _ (by omega), finR_rt]
  unfold lT
  congr 2
  generalize far ws.length xs = a
  generalize far ws.length ys = b
  generalize per ws.length xs = p
  generalize per ws.length ys = q
  push_cast
  have em : (if (b : Int) > (a : Int) then (b : Int) else (a : Int)) = ((max a b : Nat) : Int) := by split <;> omega
  rw [em]
theorem lT_ge {ws vs : List D} {xs ys : List Deed} (h : Pln ws xs) (g : Pln vs ys) (hl : ws.length = vs.length) : topN ws.length xs ys ≤ lT ws.length xs ys := by
  have d1 := le_12 (per_12 h.w0 h.w1 h.x)
  have d2 := per_12 g.w0 g.w1 g.x
  rw [← hl] at d2
  have d2 := le_12 d2
  have : Nat.lcm (per ws.length xs) (per ws.length ys) ≤ per ws.length xs * per ws.length ys := Nat.le_of_dvd (Nat.mul_pos d1.1 d2.1) (Nat.lcm_dvd_mul ..)
  unfold topN lT
  have e : 2 * per ws.length xs * per ws.length ys = 2 * (per ws.length xs * per ws.length ys) := Nat.mul_assoc ..
  omega
theorem lT_le {ws vs : List D} {xs ys : List Deed} (h : Pln ws xs) (g : Pln vs ys) (hl : ws.length = vs.length) (h1 : xs.length ≤ 6) (h2 : ys.length ≤ 6) : lT ws.length xs ys ≤ 1000 := by
  have d1 := le_12 (per_12 h.w0 h.w1 h.x)
  have d2 := per_12 g.w0 g.w1 g.x
  rw [← hl] at d2
  have d2 := le_12 d2
  have f1 := far_le h.w1 h.x
  have f2 := far_le g.w1 g.x
  rw [← hl] at f2
  have : per ws.length xs * per ws.length ys ≤ 12 * 12 := Nat.mul_le_mul d1.2 d2.2
  unfold lT
  have e : 2 * per ws.length xs * per ws.length ys = 2 * (per ws.length xs * per ws.length ys) := Nat.mul_assoc ..
  omega
theorem first_row {T U : Nat → Nat → Nat} {m n r : Nat} {S : Sto} {x3 : Option D} (hr : r < m) (hn : n ≤ 100000) :
    (rowP T U n (.int (r : Nat)) = none ∧ ∃ y3, lf1b [some (brd T m n), some (brd U m n), some (.int (r : Nat)), x3] S = .nx [some (brd T m n), some (brd U m n), some (.int (r : Nat)), y3] S) ∨
    ∃ v, rowP T U n (.int (r : Nat)) = some v ∧ lf1b [some (brd T m n), some (brd U m n), some (.int (r : Nat)), x3] S = .rt v S := by
  have l0 : opIx (brd T m n) (.int 0) S = .ok (.str (lineS (T 0) n)) S := brd_ix (r := 0) (by omega)
  have ll : bLen [.str (lineS (T 0) n)] S = .ok (.int (n : Nat)) S := by
    have : n ≤ 16777216 := by omega
    simp [bLen, lineS_len, this]
  have hit : lf1bi [some (brd T m n), some (brd U m n), some (.int (r : Nat)), x3] S = .ok (upsN n) S := by
    simp only [semArg_eq, semCons_eq, semNil_eq, semCall_eq, sem2_eq, semVar_eq, semC_eq, List.getElem?_cons_zero, bind_ok, l0, ll, range_ups (n := n) (show n < 1000000 by omega)]
  rw [lf1b, sFor_ok hit]
  rcases sLoop_ret (g := gNm 3) (fb := lf1bb) (S := S) (fun ρ => ∃ y3, ρ = [some (brd T m n), some (brd U m n), some (.int (r : Nat)), y3]) (cellP T U n r) (ds := upsN n) ⟨x3, rfl⟩ (fun d hd ρ ⟨y6, hρ⟩ => by
    obtain ⟨c, rfl, hc⟩ := upsN_mem hd
    subst hρ
    refine ⟨_, rfl, ?_⟩
    have e1 := brd_ix (T := T) (n := n) (S := S) hr
    have e2 := brd_ix (T := U) (n := n) (S := S) hr
    have f1 := lineS_ix (f := T r) (S := S) hc hn
    have f2 := lineS_ix (f := U r) (S := S) hc hn
    by_cases e : T r c = U r c
    · refine .inl ⟨by simp [cellP, e], _, ?_, ⟨some (.int (c : Nat)), rfl⟩⟩
      simp [e1, e2, f1, f2, e]
    · refine .inr ⟨_, by simp [cellP, e]; rfl, ?_⟩
      simp [e1, e2, f1, f2, tx1_ne, e, l0, ll]) with ⟨h1, ρ', h2, y6, rfl⟩ | ⟨v, h1, h2⟩
  · exact .inl ⟨h1, y6, h2⟩
  · exact .inr ⟨v, h1, h2⟩
theorem first_eq {T U : Nat → Nat → Nat} {m n : Nat} {S : Sto} (hm : m ≤ 100000) (hn : n ≤ 100000) : g__law_first [brd T m n, brd U m n] S = .ok (optD ((upsN m).findSome? (rowP T U n))) S := by
  have hl : bLen [brd T m n] S = .ok (.int m) S := by simp [brd, linesL_len]
  have hit : lf1i [some (brd T m n), some (brd U m n), none, none] S = .ok (upsN m) S := by
    simp [hl, range_ups (n := m) (by omega)]
  have e0 : g__law_first [brd T m n, brd U m n] S = finR (sSeq lf1 lf2 [some (brd T m n), some (brd U m n), none, none] S) := rfl
  rw [e0, sSeq_eq, lf1, sFor_ok hit]
  rcases sLoop_ret (g := gNm 2) (fb := lf1b) (S := S) (fun ρ => ∃ y2 y3, ρ = [some (brd T m n), some (brd U m n), y2, y3]) (rowP T U n) (ds := upsN m) ⟨none, none, rfl⟩ (fun d hd ρ ⟨y2, y3, hρ⟩ => by
    obtain ⟨r, rfl, hr⟩ := upsN_mem hd
    subst hρ
    refine ⟨_, rfl, ?_⟩
    rcases first_row (T := T) (U := U) (n := n) (S := S) (x3 := y3) hr hn with ⟨h1, z6, h2⟩ | ⟨v, h1, h2⟩
    · exact .inl ⟨h1, _, h2, _, _, rfl⟩
    · exact .inr ⟨v, h1, h2⟩) with ⟨h1, ρ', h2, y2, y3, rfl⟩ | ⟨v, h1, h2⟩
  · rw [h2, h1, seqS_nx]; rfl
  · rw [h2, h1]; rfl
theorem lturned_eq {T : Nat → Nat → Nat} {m n : Nat} {w : Str} {S : Sto} (hw : w ∈ twords) (hm : m ≤ 100000) (hn : n ≤ 100000) : g__law_turned [brd T m n, .str w] S = .ok (brd (turnT (isO w) (isE w) m n T) m n) S := by
  obtain ⟨o1, o2, o3⟩ := w4_ok
  have wk := tw_ok w hw
  have i1 := fun S => (opIn2 (S := S) wk o1 o3).1
  have i2 := fun S => (opIn2 (S := S) wk o1 o2).1
  have e0 : g__law_turned [brd T m n, .str w] S = finR (sem__law_turned [some (brd T m n), some (.str w), none, none] S) := rfl
  have t1 : (sAsg (semIte (sem2 opIn (semVar 1) (semTup (semCons (semC (.str "both")) (semCons (semC (.str "over")) semNil)))) (sem1 opRev (semVar 0)) (semVar 0)) (gNm 2)) [some (brd T m n), some (.str w), none, none] S = .nx [some (brd T m n), some (.str w), some (brd (turnT (isO w) false m n T) m n), none] S := by
    cases ho : isO w with
    | true =>
      have ho' : (decide (w = "both") || decide (w = "over")) = true := ho
      simp only [sAsg_eq, semIte_eq, sem2_eq, semVar_eq, semTup_eq, semCons_eq, semNil_eq, semC_eq, List.getElem?_cons_zero, List.getElem?_cons_succ, bind_ok, List.length_cons, List.length_nil, kl, show (0 + 1 + 1 ≤ 16777216) from by omega, if_true, i1, ho', toS_ok, brB_bl, sem1_eq, rev_brd, gNm_eq, List.set_cons_zero, List.set_cons_succ, optS_some]
    | false =>
      have ho' : (decide (w = "both") || decide (w = "over")) = false := ho
      simp only [sAsg_eq, semIte_eq, sem2_eq, semVar_eq, semTup_eq, semCons_eq, semNil_eq, semC_eq, List.getElem?_cons_zero, List.getElem?_cons_succ, bind_ok, List.length_cons, List.length_nil, kl, show (0 + 1 + 1 ≤ 16777216) from by omega, if_true, i1, ho', toS_ok, brB_bl, Bool.false_eq_true, if_false, gNm_eq, List.set_cons_zero, List.set_cons_succ, optS_some]
      rfl
  rw [e0, sem__law_turned, sSeq_eq, t1, seqS_nx, sRet_eq, semIte_eq]
  have hl : (linesL (turnT (isO w) false m n T) m n).length ≤ 16777216 := by rw [linesL_len]; omega
  have hwp : wipeE [some (brd T m n), some (.str w), some (brd (turnT (isO w) false m n T) m n), none] [3] = [some (brd T m n), some (.str w), some (brd (turnT (isO w) false m n T) m n), none] := rfl
  have hb : bItems (brd (turnT (isO w) false m n T) m n) S = .ok (linesL (turnT (isO w) false m n T) m n) S := rfl
  have key := rev_lines (T := turnT (isO w) false m n T) (m := m) (n := n) (i := 3) (S := S) (ρ := [some (brd T m n), some (.str w), some (brd (turnT (isO w) false m n T) m n), none]) hn (fun d => rfl)
  have ht : ∀ L : List D, bTuple [.lst L] S = .ok (.tup L) S := fun L => rfl
  cases he : isE w with
  | true =>
    have he' : (decide (w = "both") || decide (w = "ends")) = true := he
    simp only [sem2_eq, semVar_eq, semTup_eq, semCons_eq, semNil_eq, semC_eq, List.getElem?_cons_zero, List.getElem?_cons_succ, bind_ok, List.length_cons, List.length_nil, kl, show (0 + 1 + 1 ≤ 16777216) from by omega, if_true, i2, he', brB_bl, semCall_eq, semLc_eq, semItems_eq, hb, hl, hwp, key, finD_eq, ht, toS_ok, finR_rt]
    rfl
  | false =>
    have he' : (decide (w = "both") || decide (w = "ends")) = false := he
    simp only [sem2_eq, semVar_eq, semTup_eq, semCons_eq, semNil_eq, semC_eq, List.getElem?_cons_zero, List.getElem?_cons_succ, bind_ok, List.length_cons, List.length_nil, kl, show (0 + 1 + 1 ≤ 16777216) from by omega, if_true, i2, he', brB_bl, Bool.false_eq_true, if_false, toS_ok, finR_rt]
end K06
namespace K06
open PySem L2 GB Sh
theorem cell_form {T U : Nat → Nat → Nat} {n : Int} {r : Nat} {d v : D} (h : cellP T U n r d = some v) : ∃ a b c : Int, v = .tup [.int a, .int b, .int c] := by
  unfold cellP at h
  split at h
  · split at h
    · cases h
    · cases h; exact ⟨_, _, _, rfl⟩
  · cases h
theorem row_form {T U : Nat → Nat → Nat} {n : Nat} {d v : D} (h : rowP T U n d = some v) : ∃ a b c : Int, v = .tup [.int a, .int b, .int c] := by
  unfold rowP at h
  split at h
  · obtain ⟨x, _, hx⟩ := List.exists_of_findSome?_eq_some h
    exact cell_form hx
  · cases h
theorem num_form {ws vs : List D} {xs ys : List Deed} {d v : D} (h : numP ws xs vs ys d = some v) : ∃ a b c : Int, v = .tup [.int a, .int b, .int c] := by
  unfold numP at h
  split at h
  · obtain ⟨x, _, hx⟩ := List.exists_of_findSome?_eq_some h
    exact row_form hx
  · cases h
theorem part_form {ws vs : List D} {xs ys : List Deed} {t : Nat} {v : D} (h : partD ws xs vs ys t = some v) : ∃ a b c : Int, v = .tup [.int a, .int b, .int c] := by
  obtain ⟨x, _, hx⟩ := List.exists_of_findSome?_eq_some h
  exact num_form hx
/-- the list of the places found -/
def oL (o : Option D) : D := .lst o.toList
theorem num_eq {ws vs : List D} {xs ys : List Deed} {n : Nat} : numP ws xs vs ys (.int (n : Nat)) = (upsN ws.length).findSome? (rowP (bdT ws xs n) (bdT vs ys n) n) := rfl
theorem part_succ {ws vs : List D} {xs ys : List Deed} {t : Nat} : partD ws xs vs ys (t + 1) = (partD ws xs vs ys t).or (numP ws xs vs ys (.int ((t + 1 : Nat) : Int))) := by
  unfold partD numsN
  rw [List.range_succ, List.map_append, List.findSome?_append]
  congr 1
  show List.findSome? _ [D.int (1 + (t : Nat))] = _
  rw [List.findSome?_cons, List.findSome?_nil, show (1 + (t : Nat) : Int) = ((t + 1 : Nat) : Int) from by omega]
  cases numP ws xs vs ys (.int ((t + 1 : Nat) : Int)) <;> rfl
theorem part_zero {ws vs : List D} {xs ys : List Deed} : partD ws xs vs ys 0 = none := rfl
theorem same_succ {ws vs : List D} {xs ys : List Deed} {t : Nat} (hl : ws.length = vs.length) : sameB ws xs vs ys (t + 1) = true ↔ sameB ws xs vs ys t = true ∧ bd ws xs (t + 1) = bd vs ys (t + 1) := by
  rw [sameB_iff hl, sameB_iff hl]
  constructor
  · exact fun h => ⟨fun n a b => h n a (by omega), h _ (by omega) (by omega)⟩
  · rintro ⟨h, g⟩ n a b
    by_cases e : n = t + 1
    · subst e; exact g
    · exact h n a (by omega)
open Classical in
theorem turn_succ {ws vs : List D} {xs ys : List Deed} {t : Nat} (hl : ws.length = vs.length) : turnL ws xs vs ys (t + 1) = (turnL ws xs vs ys t).filter fun w => decide (bd ws (xs ++ tw (isO w) (isE w)) (t + 1) = bd vs ys (t + 1)) := by
  unfold turnL
  rw [List.filter_filter]
  refine List.filter_congr fun w _ => ?_
  rw [Bool.eq_iff_iff, same_succ hl]
  simp [and_comm]
theorem turn_zero {ws vs : List D} {xs ys : List Deed} (hl : ws.length = vs.length) : turnL ws xs vs ys 0 = twords := by
  unfold turnL
  rw [List.filter_eq_self]
  intro w _
  rw [sameB_iff hl]
  intro n a b; omega
theorem part_val {ws vs : List D} {xs ys : List Deed} {t : Nat} {v : D} (h : partD ws xs vs ys t = some v) : Val 10 1 v ∧ pl v = true := by
  obtain ⟨a, b, c, rfl⟩ := part_form h
  exact ⟨⟨by simp, by simp [Val]⟩, rfl⟩
theorem oL_nil {ws vs : List D} {xs ys : List Deed} {t : Nat} {S : Sto} : opEq (oL (partD ws xs vs ys t)) (.lst []) S = .ok (.bl (partD ws xs vs ys t).isNone) S ∧ opNe (oL (partD ws xs vs ys t)) (.lst []) S = .ok (.bl !(partD ws xs vs ys t).isNone) S := by
  cases h : partD ws xs vs ys t with
  | none => exact opEq_nil (w := 10) (n := 1) (ys := []) (by simp) (by omega)
  | some d =>
    have hv := (part_val h).1
    exact opEq_nil (w := 10) (n := 1) (ys := [d]) (by simpa using hv) (by omega)
theorem filter_loop {i : Nat} {ρ : GB.Env} {fc fe : Sem} {p : D → Bool} {S : Sto} {ds : List D} (h : ∀ d ∈ ds, fc (ρ.set i (some d)) S = .ok (.bl (p d)) S) (g : ∀ d ∈ ds, fe (ρ.set i (some d)) S = .ok d S) : cLoop (gNm i) fc fe ρ ds S = .ok (ds.filter p) S := by
  have := cLoop_filter (f := id) (p := p) h fun d hd _ => g d hd
  rw [List.map_id] at this
  exact this
theorem one_loop {ρ : GB.Env} {o : Option D} {S : Sto} (h : ∀ d, o = some d → ∃ a b c : Int, d = .tup [.int a, .int b, .int c]) (hi : ∀ d : D, (ρ.set 10 (some d))[10]? = some (some d)) : cLoop (gNm 10) (sem2 opIsNot (semVar 10) (semC .non)) (semVar 10) ρ [optD o] S = .ok o.toList S := by
  cases o with
  | none =>
    rw [filter_loop (p := fun _ => false)]
    · rfl
    · intro d hd
      obtain rfl : d = .non := by simpa [optD] using hd
      simp only [sem2_eq, semVar_eq, hi, bind_ok, semC_eq]; rfl
    · intro d hd
      simp only [semVar_eq, hi]
  | some v =>
    obtain ⟨a, b, c, rfl⟩ := h v rfl
    rw [filter_loop (p := fun _ => true)]
    · rfl
    · intro d hd
      obtain rfl : d = .tup [.int a, .int b, .int c] := by simpa [optD] using hd
      simp only [sem2_eq, semVar_eq, hi, bind_ok, semC_eq]; rfl
    · intro d hd
      simp only [semVar_eq, hi]
theorem right_step {ws vs : List D} {xs ys : List Deed} {S : Sto} {t : Nat} (h : Pln ws xs) (g : Pln vs ys) (hl : ws.length = vs.length) (ht : t < 5000) (x3 x4 x7 x8 x9 x10 : Option D) :
    ∃ S1, Grow S S1 ∧ lr2b [some (planD ws xs), some (planD vs ys), some (.int ((t + 1 : Nat) : Int)), x3, x4, some (oL (partD ws xs vs ys t)), some (.lst ((turnL ws xs vs ys t).map .str)), x7, x8, x9, x10] S = .nx [some (planD ws xs), some (planD vs ys), some (.int ((t + 1 : Nat) : Int)), x3, x4, some (oL (partD ws xs vs ys (t + 1))), some (.lst ((turnL ws xs vs ys (t + 1)).map .str)), some (bd ws xs (t + 1)), some (bd vs ys (t + 1)), x9, x10] S1 := by
  have hw1 := h.w1
  have gw1 := g.w1
  obtain ⟨S1, g1, e1⟩ := h.lbrd (n := t + 1) (S := S) (by omega) (by omega)
  obtain ⟨S2, g2, e2⟩ := g.lbrd (n := t + 1) (S := S1) (by omega) (by omega)
  refine ⟨S2, g1.trans g2, ?_⟩
  have t1 : lr2b1 [some (planD ws xs), some (planD vs ys), some (.int ((t + 1 : Nat) : Int)), x3, x4, some (oL (partD ws xs vs ys t)), some (.lst ((turnL ws xs vs ys t).map .str)), x7, x8, x9, x10] S = .nx [some (planD ws xs), some (planD vs ys), some (.int ((t + 1 : Nat) : Int)), x3, x4, some (oL (partD ws xs vs ys t)), some (.lst ((turnL ws xs vs ys t).map .str)), some (bd ws xs (t + 1)), some (bd vs ys (t + 1)), x9, x10] S2 := by
    simp only [lr2b1, sAsg_eq, semTup_eq, semCons_eq, semNil_eq, semCall_eq, semVar_eq, List.getElem?_cons_zero, List.getElem?_cons_succ, bind_ok, List.length_cons, List.length_nil, kl, if_true, e1, e2, show (0 + 1 + 1 ≤ 16777216) from by omega, toS_ok]
    rfl
  have f1 : g__law_first [bd ws xs (t + 1), bd vs ys (t + 1)] S2 = .ok (optD (numP ws xs vs ys (.int ((t + 1 : Nat) : Int)))) S2 := by
    have := first_eq (T := bdT ws xs (t + 1)) (U := bdT vs ys (t + 1)) (m := ws.length) (n := t + 1) (S := S2) (by omega) (by omega)
    rw [num_eq, ← this]
    unfold bd
    rw [← hl]
  have t2 : lr2b2 [some (planD ws xs), some (planD vs ys), some (.int ((t + 1 : Nat) : Int)), x3, x4, some (oL (partD ws xs vs ys t)), some (.lst ((turnL ws xs vs ys t).map .str)), some (bd ws xs (t + 1)), some (bd vs ys (t + 1)), x9, x10] S2 = .nx [some (planD ws xs), some (planD vs ys), some (.int ((t + 1 : Nat) : Int)), x3, x4, some (oL (partD ws xs vs ys (t + 1))), some (.lst ((turnL ws xs vs ys t).map .str)), some (bd ws xs (t + 1)), some (bd vs ys (t + 1)), x9, x10] S2 := by
    have hn := (oL_nil (ws := ws) (xs := xs) (vs := vs) (ys := ys) (t := t) (S := S2)).1
    rw [part_succ]
    rw [lr2b2, sIf_eq, sem2_eq]
    simp only [semVar_eq, List.getElem?_cons_zero, List.getElem?_cons_succ, bind_ok, semLst_eq, semNil_eq, List.length_nil, kl, show (0 ≤ 16777216) from by omega, if_true, hn, toS_ok, brS_bl]
    cases hp : partD ws xs vs ys t with
    | some d => simp
    | none =>
      have key := one_loop (ρ := [some (planD ws xs), some (planD vs ys), some (.int ((t + 1 : Nat) : Int)), x3, x4, some (oL none), some (.lst ((turnL ws xs vs ys t).map .str)), some (bd ws xs (t + 1)), some (bd vs ys (t + 1)), x9, none]) (o := numP ws xs vs ys (.int ((t + 1 : Nat) : Int))) (S := S2) (fun d hd => num_form hd) (fun d => rfl)
      have hwp : wipeE [some (planD ws xs), some (planD vs ys), some (.int ((t + 1 : Nat) : Int)), x3, x4, some (oL none), some (.lst ((turnL ws xs vs ys t).map .str)), some (bd ws xs (t + 1)), some (bd vs ys (t + 1)), x9, x10] [10] = [some (planD ws xs), some (planD vs ys), some (.int ((t + 1 : Nat) : Int)), x3, x4, some (oL none), some (.lst ((turnL ws xs vs ys t).map .str)), some (bd ws xs (t + 1)), some (bd vs ys (t + 1)), x9, none] := rfl
      simp only [Option.isNone_none, if_true, sAsg_eq, semLc_eq, semItems_eq, semLst_eq, semCons_eq, semCall_eq, semVar_eq, semNil_eq, List.getElem?_cons_zero, List.getElem?_cons_succ, bind_ok, List.length_cons, List.length_nil, kl, f1, show (0 + 1 ≤ 16777216) from by omega, bItems_lst, hwp, key, finD_eq, toS_ok, gNm_eq, optS_some, List.set_cons_succ, List.set_cons_zero, Option.none_or]
      rfl
  have t3 : lr2b3 [some (planD ws xs), some (planD vs ys), some (.int ((t + 1 : Nat) : Int)), x3, x4, some (oL (partD ws xs vs ys (t + 1))), some (.lst ((turnL ws xs vs ys t).map .str)), some (bd ws xs (t + 1)), some (bd vs ys (t + 1)), x9, x10] S2 = .nx [some (planD ws xs), some (planD vs ys), some (.int ((t + 1 : Nat) : Int)), x3, x4, some (oL (partD ws xs vs ys (t + 1))), some (.lst ((turnL ws xs vs ys (t + 1)).map .str)), some (bd ws xs (t + 1)), some (bd vs ys (t + 1)), x9, x10] S2 := by
    classical
    rw [turn_succ hl]
    have hwp : wipeE [some (planD ws xs), some (planD vs ys), some (.int ((t + 1 : Nat) : Int)), x3, x4, some (oL (partD ws xs vs ys (t + 1))), some (.lst ((turnL ws xs vs ys t).map .str)), some (bd ws xs (t + 1)), some (bd vs ys (t + 1)), x9, x10] [9] = [some (planD ws xs), some (planD vs ys), some (.int ((t + 1 : Nat) : Int)), x3, x4, some (oL (partD ws xs vs ys (t + 1))), some (.lst ((turnL ws xs vs ys t).map .str)), some (bd ws xs (t + 1)), some (bd vs ys (t + 1)), none, x10] := rfl
    have key := filter_loop (i := 9) (ρ := [some (planD ws xs), some (planD vs ys), some (.int ((t + 1 : Nat) : Int)), x3, x4, some (oL (partD ws xs vs ys (t + 1))), some (.lst ((turnL ws xs vs ys t).map .str)), some (bd ws xs (t + 1)), some (bd vs ys (t + 1)), none, x10]) (fc := (sem2 opEq (semCall (fun ds S => if ds.length = 2 then g__law_turned ds S else .no) (semCons (semVar 7) (semCons (semVar 9) semNil))) (semVar 8))) (fe := semVar 9) (S := S2) (ds := (turnL ws xs vs ys t).map .str)
      (p := fun d => match d with | .str w => decide (bd ws (xs ++ tw (isO w) (isE w)) (t + 1) = bd vs ys (t + 1)) | _ => false) (fun d hd => by
        obtain ⟨w, hw, rfl⟩ := List.mem_map.mp hd
        have hw : w ∈ twords := (List.mem_filter.mp hw).1
        have b3 := lturned_eq (T := bdT ws xs (t + 1)) (m := ws.length) (n := t + 1) (S := S2) hw (by omega) (by omega)
        rw [← bd_turn] at b3
        have b3 : g__law_turned [bd ws xs (t + 1), .str w] S2 = .ok (bd ws (xs ++ tw (isO w) (isE w)) (t + 1)) S2 := b3
        obtain ⟨b, b4, _, b5⟩ := bd_ne (S := S2) (pln_turn h (isO w) (isE w)) g (n := t + 1) (by omega)
        have b6 : b = decide (bd ws (xs ++ tw (isO w) (isE w)) (t + 1) = bd vs ys (t + 1)) := by
          rw [Bool.eq_iff_iff, decide_eq_true_eq]; exact b5
        simp only [sem2_eq, semCall_eq, semCons_eq, semNil_eq, semVar_eq, List.set_cons_succ, List.set_cons_zero, List.getElem?_cons_zero, List.getElem?_cons_succ, bind_ok, List.length_cons, List.length_nil, if_true, b3, b4, b6]) (fun d hd => by
        simp only [semVar_eq, List.set_cons_succ, List.set_cons_zero, List.getElem?_cons_zero, List.getElem?_cons_succ])
    have hlen : ((turnL ws xs vs ys t).map D.str).length ≤ 16777216 := by
      have : (turnL ws xs vs ys t).length ≤ twords.length := List.length_filter_le _ _
      rw [List.length_map]
      exact Nat.le_trans this (by decide)
    rw [List.filter_map] at key
    rw [lr2b3, sAsg_eq, semLc_eq, semItems_eq]
    simp only [semVar_eq, List.getElem?_cons_zero, List.getElem?_cons_succ, bind_ok, bItems_lst, kl, hlen, if_true, hwp, key, finD_eq, toS_ok, gNm_eq, optS_some, List.set_cons_succ, List.set_cons_zero]
    rfl
  rw [lr2b, sSeq_eq, t1, seqS_nx, sSeq_eq, t2, seqS_nx, t3]
end K06
namespace K06
open PySem L2 GB Sh
theorem turn_top {ws vs : List D} {xs ys : List Deed} (h : Pln ws xs) (g : Pln vs ys) (hl : ws.length = vs.length) {T : Nat} (hT : topN ws.length xs ys ≤ T) : turnL ws xs vs ys T = turnL ws xs vs ys (topN ws.length xs ys) := by
  unfold turnL
  refine List.filter_congr fun w _ => ?_
  have := same_top (pln_turn h (isO w) (isE w)) g hl (T := T) (by rw [topN_turn]; exact hT)
  rw [topN_turn] at this
  exact this
theorem turn_val {ws vs : List D} {xs ys : List Deed} {t : Nat} : Val 10 1 (.lst ((turnL ws xs vs ys t).map .str)) ∧ pl (.lst ((turnL ws xs vs ys t).map .str)) = true := by
  have hl : (turnL ws xs vs ys t).length ≤ twords.length := List.length_filter_le _ _
  have h4 : ∀ w ∈ twords, w.length ≤ 10 := by decide +kernel
  have hm : ∀ w ∈ turnL ws xs vs ys t, w ∈ twords := fun w hw => (List.mem_filter.mp hw).1
  refine ⟨⟨by rw [List.length_map]; exact Nat.le_trans hl (by decide), fun d hd => ?_⟩, ?_⟩
  · obtain ⟨w, hw, rfl⟩ := List.mem_map.mp hd
    exact ⟨h4 w (hm w hw), tw_ok w (hm w hw)⟩
  · rw [pl, pls_all, List.all_eq_true]
    intro d hd
    obtain ⟨w, _, rfl⟩ := List.mem_map.mp hd
    rfl
theorem opt_val {ws vs : List D} {xs ys : List Deed} {t : Nat} : Val 10 1 (optD (partD ws xs vs ys t)) ∧ pl (optD (partD ws xs vs ys t)) = true ∧ ∀ S, der S (optD (partD ws xs vs ys t)) = optD (partD ws xs vs ys t) := by
  cases h : partD ws xs vs ys t with
  | none => exact ⟨trivial, rfl, fun S => rfl⟩
  | some d =>
    obtain ⟨a, b, c, rfl⟩ := part_form h
    exact ⟨⟨by simp, by simp [Val]⟩, rfl, fun S => rfl⟩
theorem opt_ne {ws vs : List D} {xs ys : List Deed} {t : Nat} {S : Sto} : opNe (optD (partD ws xs vs ys t)) (optD (partD ws xs vs ys t)) S = .ok (.bl false) S := by
  obtain ⟨v, p, d⟩ := opt_val (ws := ws) (vs := vs) (xs := xs) (ys := ys) (t := t)
  obtain ⟨b, _, h2, h3⟩ := eq_pl (S := S) (d := optD (partD ws xs vs ys t)) (e := optD (partD ws xs vs ys t)) (by rw [d]; exact v) (by rw [d]; exact v) (by omega) (by omega) (by rw [d]; exact p) (by rw [d]; exact p)
  obtain rfl : b = true := h3.mpr rfl
  exact h2
theorem right_eq {ws vs : List D} {xs ys : List Deed} {S : Sto} (h : Pln ws xs) (g : Pln vs ys) (hl : ws.length = vs.length) (h6 : xs.length ≤ 6) (g6 : ys.length ≤ 6) : ∃ S1, Grow S S1 ∧ g__law_right [planD ws xs, planD vs ys] S = .ok (.bl true) S1 := by
  have htop := ltop_eq (S := S) h g hl
  have hge := lT_ge h g hl
  have hle := lT_le h g hl h6 g6
  have hr := range_nums (n := lT ws.length xs ys) (S := S) (by omega)
  have e0 : g__law_right [planD ws xs, planD vs ys] S = finR (lr [some (planD ws xs), some (planD vs ys), none, none, none, none, none, none, none, none, none] S) := rfl
  have t1 : lr1 [some (planD ws xs), some (planD vs ys), none, none, none, none, none, none, none, none, none] S = .nx [some (planD ws xs), some (planD vs ys), none, none, none, some (oL (partD ws xs vs ys 0)), some (.lst ((turnL ws xs vs ys 0).map .str)), none, none, none, none] S := by
    rw [turn_zero hl, part_zero]
    simp [lr1, oL, twords]
  have hit : lr2i [some (planD ws xs), some (planD vs ys), none, none, none, some (oL (partD ws xs vs ys 0)), some (.lst ((turnL ws xs vs ys 0).map .str)), none, none, none, none] S = .ok (numsN (lT ws.length xs ys)) S := by
    simp only [lr2i, semArg_eq, semCons_eq, semNil_eq, semCall_eq, sem2_eq, semVar_eq, semC_eq, List.getElem?_cons_zero, List.getElem?_cons_succ, bind_ok, List.length_cons, List.length_nil, if_true, htop, opAdd_int, hr]
  obtain ⟨ρ', S1, e1, g1, y2, y7, y8, rfl⟩ := sLoop_upto (g := gNm 2) (fb := lr2b) (fun t ρ S1 => Grow S S1 ∧ ∃ y2 y7 y8, ρ = [some (planD ws xs), some (planD vs ys), y2, none, none, some (oL (partD ws xs vs ys t)), some (.lst ((turnL ws xs vs ys t).map .str)), y7, y8, none, none]) (fun i => D.int (1 + (i : Nat))) (lT ws.length xs ys) (ρ := [some (planD ws xs), some (planD vs ys), none, none, none, some (oL (partD ws xs vs ys 0)), some (.lst ((turnL ws xs vs ys 0).map .str)), none, none, none, none]) (S := S) ⟨Grow.refl S, _, _, _, rfl⟩ (by
    rintro t ht ρ S0 ⟨g0, y2, y7, y8, rfl⟩
    obtain ⟨S1, g1, e⟩ := right_step (S := S0) (t := t) h g hl (by omega) none none y7 y8 none none
    have ei : (1 + (t : Nat) : Int) = ((t + 1 : Nat) : Int) := by omega
    exact ⟨_, _, S1, by rw [ei]; rfl, e, g0.trans g1, _, _, _, rfl⟩)
  have t2 : lr2 [some (planD ws xs), some (planD vs ys), none, none, none, some (oL (partD ws xs vs ys 0)), some (.lst ((turnL ws xs vs ys 0).map .str)), none, none, none, none] S = _ := (sFor_ok hit).trans e1
  rw [part_top h g hl hge, turn_top h g hl hge] at t2
  have htn : topN ws.length xs ys ≤ 10000 := by omega
  have hn := (oL_nil (ws := ws) (xs := xs) (vs := vs) (ys := ys) (t := topN ws.length xs ys) (S := S1)).2
  have t3 : lr3 [some (planD ws xs), some (planD vs ys), y2, none, none, some (oL (partD ws xs vs ys (topN ws.length xs ys))), some (.lst ((turnL ws xs vs ys (topN ws.length xs ys)).map .str)), y7, y8, none, none] S1 = .nx [some (planD ws xs), some (planD vs ys), y2, some (optD (partD ws xs vs ys (topN ws.length xs ys))), none, some (oL (partD ws xs vs ys (topN ws.length xs ys))), some (.lst ((turnL ws xs vs ys (topN ws.length xs ys)).map .str)), y7, y8, none, none] S1 := by
    rw [lr3, sAsg_eq, semIte_eq, sem2_eq]
    simp only [semVar_eq, List.getElem?_cons_zero, List.getElem?_cons_succ, bind_ok, semLst_eq, semNil_eq, List.length_nil, kl, show (0 ≤ 16777216) from by omega, if_true, hn, toS_ok, brB_bl]
    cases partD ws xs vs ys (topN ws.length xs ys) with
    | none => rfl
    | some d => rfl
  have ha := alike_eq (S := S1) h g h6 g6 hl htn
  have hp := parting_eq (S := S1) h g h6 g6 hl htn
  have ht := turns_eq (S := S1) h g h6 g6 hl htn
  have t4 : lr4 [some (planD ws xs), some (planD vs ys), y2, some (optD (partD ws xs vs ys (topN ws.length xs ys))), none, some (oL (partD ws xs vs ys (topN ws.length xs ys))), some (.lst ((turnL ws xs vs ys (topN ws.length xs ys)).map .str)), y7, y8, none, none] S1 = .nx [some (planD ws xs), some (planD vs ys), y2, some (optD (partD ws xs vs ys (topN ws.length xs ys))), some (.bl (isNone (optD (partD ws xs vs ys (topN ws.length xs ys))))), some (oL (partD ws xs vs ys (topN ws.length xs ys))), some (.lst ((turnL ws xs vs ys (topN ws.length xs ys)).map .str)), y7, y8, none, none] S1 := by
    simp [lr4, ha]
  have hne := opt_ne (ws := ws) (vs := vs) (xs := xs) (ys := ys) (t := topN ws.length xs ys) (S := S1)
  have t5 : lr5 [some (planD ws xs), some (planD vs ys), y2, some (optD (partD ws xs vs ys (topN ws.length xs ys))), some (.bl (isNone (optD (partD ws xs vs ys (topN ws.length xs ys))))), some (oL (partD ws xs vs ys (topN ws.length xs ys))), some (.lst ((turnL ws xs vs ys (topN ws.length xs ys)).map .str)), y7, y8, none, none] S1 = .nx [some (planD ws xs), some (planD vs ys), y2, some (optD (partD ws xs vs ys (topN ws.length xs ys))), some (.bl (isNone (optD (partD ws xs vs ys (topN ws.length xs ys))))), some (oL (partD ws xs vs ys (topN ws.length xs ys))), some (.lst ((turnL ws xs vs ys (topN ws.length xs ys)).map .str)), y7, y8, none, none] S1 := by
    have hs : subTy .bool .bool = true := rfl
    simp [lr5, hp, hne, hs, opIs]
  obtain ⟨tv, tp⟩ := turn_val (ws := ws) (vs := vs) (xs := xs) (ys := ys) (t := topN ws.length xs ys)
  have hd := der_own (get_last S1 (.lst ((turnL ws xs vs ys (topN ws.length xs ys)).map .str)))
  obtain ⟨b, q1, _, q3⟩ := eq_pl (S := S1 ++ [.lst ((turnL ws xs vs ys (topN ws.length xs ys)).map .str)]) (d := .own S1.length) (e := .lst ((turnL ws xs vs ys (topN ws.length xs ys)).map .str)) (w := 10) (v := 10) (n := 1) (m := 1) (by rw [hd]; exact tv) tv (by omega) (by omega) (by rw [hd]; exact tp) tp
  obtain rfl : b = true := q3.mpr hd
  have t6 : lr6 [some (planD ws xs), some (planD vs ys), y2, some (optD (partD ws xs vs ys (topN ws.length xs ys))), some (.bl (isNone (optD (partD ws xs vs ys (topN ws.length xs ys))))), some (oL (partD ws xs vs ys (topN ws.length xs ys))), some (.lst ((turnL ws xs vs ys (topN ws.length xs ys)).map .str)), y7, y8, none, none] S1 = .rt (.bl true) (S1 ++ [.lst ((turnL ws xs vs ys (topN ws.length xs ys)).map .str)]) := by
    simp only [lr6, sRet_eq, sem2_eq, semCall_eq, semCons_eq, semNil_eq, semVar_eq, List.getElem?_cons_zero, List.getElem?_cons_succ, bind_ok, List.length_cons, List.length_nil, if_true, ht, q1, toS_ok]
  refine ⟨S1 ++ [.lst ((turnL ws xs vs ys (topN ws.length xs ys)).map .str)], g1.trans ⟨_, rfl⟩, ?_⟩
  rw [e0, lr, sSeq_eq, t1, seqS_nx, sSeq_eq, t2, seqS_nx, sSeq_eq, t3, seqS_nx, sSeq_eq, t4, seqS_nx, sSeq_eq, t5, seqS_nx, t6]
  rfl
/-! ### a plan near another -/
theorem other_eq {k : Nat} {S : Sto} {ws : List D} {xs : List Deed} (hs : St k S) (h : Pln ws xs) (hl : xs.length ≤ 100) : Dr k S (g__law_other [.own k, planD ws xs] S) fun d => ∃ ys, d = planD ws ys ∧ Pln ws ys ∧ ys.length ≤ xs.length + 2 := by
  obtain ⟨_, S1, e1, u1, r, rfl, r0, r1⟩ := saw_eq (m := (xs.length : Int) + 1) hs (by omega) (by omega)
  have s1 := u1.st hs
  obtain ⟨_, S2, e2, u2, w, rfl, w0, w1⟩ := saw_eq (m := 5) s1 (by omega) (by omega)
  have s2 := u2.st s1
  obtain ⟨i, rfl⟩ : ∃ i : Nat, r = (i : Nat) := ⟨r.toNat, by omega⟩
  have hi : i ≤ xs.length := by omega
  have e0 : g__law_other [.own k, planD ws xs] S = finR (lo [some (.own k), some (planD ws xs), none, none, none, none, none, none] S) := rfl
  have t1 : lo1 [some (.own k), some (planD ws xs), none, none, none, none, none, none] S = .nx [some (.own k), some (planD ws xs), some (.tup ws), some (.tup (xs.map Deed.d)), none, none, none, none] S := by
    simp [lo1, planD]
  have t2 : lo2 [some (.own k), some (planD ws xs), some (.tup ws), some (.tup (xs.map Deed.d)), none, none, none, none] S = .nx [some (.own k), some (planD ws xs), some (.tup ws), some (.tup (xs.map Deed.d)), some (.int (i : Nat)), some (.int w), none, none] S2 := by
    simp [lo2, e1, e2]
  have k1 : xs.length ≤ 16777216 := by omega
  have tk := fun S => sl_take (xs := xs.map Deed.d) (i := i) (S := S) (by simp; omega)
  have d0 := fun S => sl_drop (xs := xs.map Deed.d) (i := i) (S := S)
  have d1 := fun S => sl_drop (xs := xs.map Deed.d) (i := i + 1) (S := S)
  have d2 := fun S => sl_drop (xs := xs.map Deed.d) (i := i + 2) (S := S)
  have dm := fun S => sl_mid (xs := xs.map Deed.d) (i := i) (j := i + 2) (S := S) (by simp; omega) (by omega)
  have f1 : (((i + 1 : Nat)) : Int) = (i : Nat) + 1 := by omega
  have f2 : (((i + 2 : Nat)) : Int) = (i : Nat) + 2 := by omega
  simp only [f1] at d1
  simp only [f2] at d2 dm
  rw [e0, lo, sSeq_eq, t1, seqS_nx, sSeq_eq, t2, seqS_nx]
  by_cases c0 : w = 0
  · subst c0
    have cc := fun S => cat_tup (a := (xs.map Deed.d).take i) (b := (xs.map Deed.d).drop (i + 1)) (S := S) (by simp; omega)
    refine ⟨planD ws (wo xs i), S2, ?_, u1.trans u2, wo xs i, rfl, h.sub wo_mem, ?_⟩
    · have : lo3 [some (.own k), some (planD ws xs), some (.tup ws), some (.tup (xs.map Deed.d)), some (.int (i : Nat)), some (.int 0), none, none] S2 = .rt (planD ws (wo xs i)) S2 := by
        simp [lo3, semSl, OEx.run, tk, d1, cc, -List.map_take, -List.map_drop]
        simp [planD, wo]
      rw [sSeq_eq, this]; rfl
    · unfold wo; simp; omega
  have n0 : lo3 [some (.own k), some (planD ws xs), some (.tup ws), some (.tup (xs.map Deed.d)), some (.int (i : Nat)), some (.int w), none, none] S2 = .nx [some (.own k), some (planD ws xs), some (.tup ws), some (.tup (xs.map Deed.d)), some (.int (i : Nat)), some (.int w), none, none] S2 := by
    simp [lo3, c0]
  rw [sSeq_eq, n0, seqS_nx]
  by_cases c1 : w = 1 ∧ xs.length < 6
  · obtain ⟨rfl, c1⟩ := c1
    obtain ⟨d, S3, e3, u3, p3⟩ := pick_eq (t := .lst [.tup [.str "slices", .str "back"], .tup [.str "rows", .str "back"]]) (.inl rfl) s2 (by simp) (by simp)
    obtain ⟨b, rfl⟩ : ∃ b, d = (Deed.back b).d := by
      simp only [List.mem_cons, List.not_mem_nil, or_false] at p3
      rcases p3 with rfl | rfl
      · exact ⟨false, rfl⟩
      · exact ⟨true, rfl⟩
    have cc := fun S => cat_tup (a := xs.map Deed.d) (b := [(Deed.back b).d]) (S := S) (by simp; omega)
    refine ⟨planD ws (xs ++ [.back b]), S3, ?_, (u1.trans u2).trans u3, _, rfl, ⟨h.w, h.w0, h.w1, fun x hx => ?_⟩, by simp⟩
    · have : lo4 [some (.own k), some (planD ws xs), some (.tup ws), some (.tup (xs.map Deed.d)), some (.int (i : Nat)), some (.int 1), none, none] S2 = .rt (planD ws (xs ++ [.back b])) S3 := by
        have c1' : ((xs.length : Int) < 6) := by omega
        simp [lo4, e3, cc, c1']
        simp [planD]
      rw [sSeq_eq, this]; rfl
    · rcases List.mem_append.mp hx with hx | hx
      · exact h.x x hx
      · obtain rfl : x = .back b := by simpa using hx
        trivial
  have n1 : lo4 [some (.own k), some (planD ws xs), some (.tup ws), some (.tup (xs.map Deed.d)), some (.int (i : Nat)), some (.int w), none, none] S2 = .nx [some (.own k), some (planD ws xs), some (.tup ws), some (.tup (xs.map Deed.d)), some (.int (i : Nat)), some (.int w), none, none] S2 := by
    by_cases q : w = 1
    · have c1' : ¬ ((xs.length : Int) < 6) := by omega
      simp [lo4, q, c1']
    · simp [lo4, q]
  rw [sSeq_eq, n1, seqS_nx]
  by_cases c2 : w = 2 ∧ xs.length < 5
  · obtain ⟨rfl, c2⟩ := c2
    obtain ⟨d, S3, e3, u3, x, hx, rfl⟩ := deed_eq s2
    have c2' : ((xs.length : Int) < 5) := by omega
    have o1 : PyData.strOk "turn" = true ∧ PyData.strOk "back" = true := by decide +kernel
    have hu : (semIte (sem2 opIn (sem2 opIx (semVar 6) (semC (.int 1))) (semTup (semCons (semC (.str "turn")) (semCons (semC (.str "back")) semNil)))) (semVar 6) (sem2 opAdd (semSl (semVar 6) .no (.e (semC (.int 2)))) (semTup (semCons (sem1 opNeg (sem2 opIx (semVar 6) (semC (.int 2)))) semNil)))) [some (.own k), some (planD ws xs), some (.tup ws), some (.tup (xs.map Deed.d)), some (.int (i : Nat)), some (.int 2), some x.d, none] S3 = .ok x.un.d S3 := by
      have x1 := deed_ix1 x S3
      have xi := (opIn2 (S := S3) (word_ok x) o1.1 o1.2).1
      have xc := deed_cut2 x S3
      cases x with
      | back s =>
        have : (decide (wordOf (.back s) = "turn") || decide (wordOf (.back s) = "back")) = true := by simp [wordOf]
        simp [x1, xi, this, Deed.un]
      | turn s m q =>
        have : (decide (wordOf (.turn s m q) = "turn") || decide (wordOf (.turn s m q) = "back")) = true := by simp [wordOf]
        simp [x1, xi, this, Deed.un]
      | move s b z =>
        have h1 : mv b ≠ "turn" ∧ mv b ≠ "back" := by cases b <;> decide +kernel
        have : (decide (wordOf (.move s b z) = "turn") || decide (wordOf (.move s b z) = "back")) = false := by simp [wordOf, h1]
        have x2 : opIx (Deed.move s b z).d (.int 2) S3 = .ok (.int z) S3 := rfl
        have xn : opNeg (.int z) S3 = .ok (.int (-z)) S3 := rfl
        have xa : opAdd (.tup [.str (sd s), .str (wordOf (.move s b z))]) (.tup [.int (-z)]) S3 = .ok (.tup [.str (sd s), .str (mv b), .int (-z)]) S3 := cat_tup (by simp)
        have xc : opSl (Deed.move s b z).d none (some 2) S3 = .ok (.tup [.str (sd s), .str (wordOf (.move s b z))]) S3 := xc
        have xs' : ∀ ρ : GB.Env, ρ[6]? = some (some (Deed.move s b z).d) → semSl (semVar 6) .no (.e (semC (.int 2))) ρ S3 = .ok (.tup [.str (sd s), .str (wordOf (.move s b z))]) S3 := fun ρ hρ => by
          simp [semSl, OEx.run, hρ, xc]
        simp [x1, xi, this, x2, xn, xs', xa, Deed.un]
        rfl
    have hoku : x.un.Ok := by
      cases x with
      | back s => trivial
      | turn s m q => exact hx
      | move s b z => obtain ⟨h1, h2, h3⟩ := hx; exact ⟨by omega, by omega, by omega⟩
    have cc := fun S => cat_tup (a := (xs.map Deed.d).take i) (b := [x.d, x.un.d]) (S := S) (by simp; omega)
    have cc2 := fun S => cat_tup (a := (xs.map Deed.d).take i ++ [x.d, x.un.d]) (b := (xs.map Deed.d).drop i) (S := S) (by simp; omega)
    refine ⟨planD ws (xs.take i ++ [x, x.un] ++ xs.drop i), S3, ?_, (u1.trans u2).trans u3, _, rfl, ⟨h.w, h.w0, h.w1, fun y hy => ?_⟩, by simp; omega⟩
    · have a1 : (sAsg (semCall (fun ds S => if ds.length = 1 then g__law_deed ds S else .no) (semCons (semVar 0) semNil)) (gNm 6)) [some (.own k), some (planD ws xs), some (.tup ws), some (.tup (xs.map Deed.d)), some (.int (i : Nat)), some (.int 2), none, none] S2 = .nx [some (.own k), some (planD ws xs), some (.tup ws), some (.tup (xs.map Deed.d)), some (.int (i : Nat)), some (.int 2), some x.d, none] S3 := by
        simp [e3]
      have : lo5 [some (.own k), some (planD ws xs), some (.tup ws), some (.tup (xs.map Deed.d)), some (.int (i : Nat)), some (.int 2), none, none] S2 = .rt (planD ws (xs.take i ++ [x, x.un] ++ xs.drop i)) S3 := by
        rw [lo5, sIf_eq]
        have cnd : semAnd (sem2 opEq (semVar 5) (semC (.int 2))) (sem2 opLt (semCall bLen (semCons (semVar 3) semNil)) (semC (.int 5))) [some (.own k), some (planD ws xs), some (.tup ws), some (.tup (xs.map Deed.d)), some (.int (i : Nat)), some (.int 2), none, none] S2 = .ok (.bl true) S2 := by
          simp [c2']
        rw [cnd, toS_ok, brS_bl, if_pos rfl, sSeq_eq, a1, seqS_nx, sSeq_eq, sAsg_eq, hu, toS_ok]
        simp only [gNm_eq, optS_some, List.set_cons_succ, List.set_cons_zero, seqS_nx, sRet_eq, semTup_eq, semCons_eq, semNil_eq, sem2_eq, semVar_eq, List.getElem?_cons_zero, List.getElem?_cons_succ, bind_ok, semSl, OEx.run, tk, d0, List.length_cons, List.length_nil, kl, show (0 + 1 + 1 ≤ 16777216) from by omega, if_true, cc, cc2, toS_ok]
        simp [planD]
      rw [sSeq_eq, this]; rfl
    · simp only [List.mem_append, List.mem_cons, List.not_mem_nil, or_false] at hy
      rcases hy with (hy | rfl | rfl) | hy
      · exact h.x y (List.mem_of_mem_take hy)
      · exact hx
      · exact hoku
      · exact h.x y (List.mem_of_mem_drop hy)
  have n2 : lo5 [some (.own k), some (planD ws xs), some (.tup ws), some (.tup (xs.map Deed.d)), some (.int (i : Nat)), some (.int w), none, none] S2 = .nx [some (.own k), some (planD ws xs), some (.tup ws), some (.tup (xs.map Deed.d)), some (.int (i : Nat)), some (.int w), none, none] S2 := by
    rw [lo5, sIf_eq]
    have cnd : semAnd (sem2 opEq (semVar 5) (semC (.int 2))) (sem2 opLt (semCall bLen (semCons (semVar 3) semNil)) (semC (.int 5))) [some (.own k), some (planD ws xs), some (.tup ws), some (.tup (xs.map Deed.d)), some (.int (i : Nat)), some (.int w), none, none] S2 = .ok (.bl false) S2 := by
      by_cases q : w = 2
      · have c2' : ¬ ((xs.length : Int) < 5) := by omega
        simp [q, c2']
      · simp [q]
    rw [cnd]; rfl
  rw [sSeq_eq, n2, seqS_nx]
  by_cases c3 : w = 3
  · subst c3
    have rv : ∀ (L : List D) (S : Sto), opRev (.tup L) S = .ok (.tup L.reverse) S := fun L S => rfl
    have cc := fun S => cat_tup (a := (xs.map Deed.d).take i) (b := (((xs.map Deed.d).drop i).take 2).reverse) (S := S) (by simp; omega)
    have cc2 := fun S => cat_tup (a := (xs.map Deed.d).take i ++ (((xs.map Deed.d).drop i).take 2).reverse) (b := (xs.map Deed.d).drop (i + 2)) (S := S) (by simp; omega)
    have e2' : i + 2 - i = 2 := by omega
    simp only [e2'] at dm
    refine ⟨planD ws (xch xs i), S2, ?_, u1.trans u2, xch xs i, rfl, h.sub fun y hy => (xch_mem y).mp hy, ?_⟩
    · have : lo6 [some (.own k), some (planD ws xs), some (.tup ws), some (.tup (xs.map Deed.d)), some (.int (i : Nat)), some (.int 3), none, none] S2 = .rt (planD ws (xch xs i)) S2 := by
        rw [lo6, sIf_eq]
        have cnd : sem2 opEq (semVar 5) (semC (.int 3)) [some (.own k), some (planD ws xs), some (.tup ws), some (.tup (xs.map Deed.d)), some (.int (i : Nat)), some (.int 3), none, none] S2 = .ok (.bl true) S2 := by simp
        rw [cnd, toS_ok, brS_bl, if_pos rfl]
        simp only [sRet_eq, semTup_eq, semCons_eq, semNil_eq, sem2_eq, sem1_eq, semVar_eq, semC_eq, List.getElem?_cons_zero, List.getElem?_cons_succ, bind_ok, semSl, OEx.run, tk, d2, dm, opAdd_int, rv, List.length_cons, List.length_nil, kl, show (0 + 1 + 1 ≤ 16777216) from by omega, if_true, cc, cc2, toS_ok]
        simp [planD, xch]
      rw [sSeq_eq, this]; rfl
    · unfold xch; simp; omega
  have n3 : lo6 [some (.own k), some (planD ws xs), some (.tup ws), some (.tup (xs.map Deed.d)), some (.int (i : Nat)), some (.int w), none, none] S2 = .nx [some (.own k), some (planD ws xs), some (.tup ws), some (.tup (xs.map Deed.d)), some (.int (i : Nat)), some (.int w), none, none] S2 := by
    simp [lo6, c3]
  rw [sSeq_eq, n3, seqS_nx]
  obtain ⟨d, S3, e3, u3, x, hx, rfl⟩ := deed_eq s2
  have cc := fun S => cat_tup (a := (xs.map Deed.d).take i) (b := [x.d]) (S := S) (by simp; omega)
  have cc2 := fun S => cat_tup (a := (xs.map Deed.d).take i ++ [x.d]) (b := (xs.map Deed.d).drop (i + 1)) (S := S) (by simp; omega)
  refine ⟨planD ws (xs.take i ++ [x] ++ xs.drop (i + 1)), S3, ?_, (u1.trans u2).trans u3, _, rfl, ⟨h.w, h.w0, h.w1, fun y hy => ?_⟩, by simp; omega⟩
  · have : lo7 [some (.own k), some (planD ws xs), some (.tup ws), some (.tup (xs.map Deed.d)), some (.int (i : Nat)), some (.int w), none, none] S2 = .rt (planD ws (xs.take i ++ [x] ++ xs.drop (i + 1))) S3 := by
      simp only [lo7, sRet_eq, semTup_eq, semCons_eq, semNil_eq, sem2_eq, semCall_eq, semVar_eq, semC_eq, List.getElem?_cons_zero, List.getElem?_cons_succ, bind_ok, semSl, OEx.run, tk, d1, opAdd_int, e3, List.length_cons, List.length_nil, kl, show (0 + 1 + 1 ≤ 16777216) from by omega, show (0 + 1 ≤ 16777216) from by omega, if_true, cc, cc2, toS_ok]
      simp [planD]
    rw [this]; rfl
  · simp only [List.mem_append, List.mem_cons, List.not_mem_nil, or_false] at hy
    rcases hy with (hy | rfl) | hy
    · exact h.x y (List.mem_of_mem_take hy)
    · exact hx
    · exact h.x y (List.mem_of_mem_drop hy)
end K06
namespace K06
open PySem L2 GB Sh
noncomputable abbrev cands : List (Str × Nat × (List D → Sto → R D)) := [("alike", 2, g_alike), ("parting", 2, g_parting), ("turns", 2, g_turns)]
theorem refused_eq {ws vs : List D} {xs ys : List Deed} {S : Sto} (h : Pln ws xs) (g : Pln vs ys) (hl : xs.length ≤ 6) (gl : ys.length ≤ 6) (hw : ws.length ≠ vs.length) : ∃ S1, Grow S S1 ∧ g__law_refused [planD ws xs, planD vs ys] S = .ok (.bl true) S1 := by
  have t1 : tk "Unlike" "Unlike" = some true := by decide +kernel
  have c1 : candAt cands "alike" = some (2, g_alike) := rfl
  have c2 : candAt cands "parting" = some (2, g_parting) := by
    have : ("alike" : Str) ≠ "parting" := by decide +kernel
    simp [candAt, cands, this]
  have c3 : candAt cands "turns" = some (2, g_turns) := by
    have h1 : ("alike" : Str) ≠ "turns" := by decide +kernel
    have h2 : ("parting" : Str) ≠ "turns" := by decide +kernel
    simp [candAt, cands, h1, h2]
  have b := fun S => unlike_eq (S := S) h g hl gl hw
  have b1 := fun S => (b S).1
  have b2 := fun S => (b S).2.1
  have b3 := fun S => (b S).2.2
  have m1 : opMul (.lst [.str "unlike"]) (.int 3) (S ++ [.lst [.str "unlike", .str "unlike", .str "unlike"]]) = .ok (.lst [.str "unlike", .str "unlike", .str "unlike"]) (S ++ [.lst [.str "unlike", .str "unlike", .str "unlike"]]) := by
    simp [opMul, lstOf, repl]
  have e1 : opEq (.own S.length) (.lst [.str "unlike", .str "unlike", .str "unlike"]) (S ++ [.lst [.str "unlike", .str "unlike", .str "unlike"]]) = .ok (.bl true) (S ++ [.lst [.str "unlike", .str "unlike", .str "unlike"]]) := by
    rw [(own_eqs (ys := [.str "unlike", .str "unlike", .str "unlike"]) (by simp [lstOf])).2]
    exact (opEq_lst (w := 10) (n := 1) (by
      have : ("unlike" : Str).length ≤ 10 ∧ PyData.strOk "unlike" = true := by decide +kernel
      refine ⟨by simp, fun d hd => ?_⟩
      simp only [List.mem_cons, List.not_mem_nil, or_false, or_self] at hd
      subst hd; exact this) (by omega)).2
  refine ⟨S ++ [.lst [.str "unlike", .str "unlike", .str "unlike"]], ⟨_, rfl⟩, ?_⟩
  have lp : ∀ (x : Str) (zs : List D) , zs.length ≤ 10 → (x = "alike" ∨ x = "parting" ∨ x = "turns") → lu2b [some (planD ws xs), some (planD vs ys), some (.own S.length), some (.gl x)] (S ++ [.lst zs]) = .nx [some (planD ws xs), some (planD vs ys), some (.own S.length), some (.gl x)] (S ++ [.lst (zs ++ [.str "unlike"])]) := by
    intro x zs hy hx
    have hz : zs.length < 16777216 := by omega
    rcases hx with rfl | rfl | rfl
    · simp [lu2b, sTry, semCallL, c1, b1, sHands, t1, semApp, lstOf, opApp, hz]
    · simp [lu2b, sTry, semCallL, c2, b2, sHands, t1, semApp, lstOf, opApp, hz]
    · simp [lu2b, sTry, semCallL, c3, b3, sHands, t1, semApp, lstOf, opApp, hz]
  have e2 : g__law_refused [planD ws xs, planD vs ys] S = finR (lu [some (planD ws xs), some (planD vs ys), none, none] S) := rfl
  have e3 : lu1 [some (planD ws xs), some (planD vs ys), none, none] S = .nx [some (planD ws xs), some (planD vs ys), some (.own S.length), none] (S ++ [.lst []]) := by simp [lu1]
  have e4 : lu2i [some (planD ws xs), some (planD vs ys), some (.own S.length), none] (S ++ [.lst []]) = .ok [.gl "alike", .gl "parting", .gl "turns"] (S ++ [.lst []]) := by simp [lu2i]
  rw [e2, lu, sSeq_eq, e3, seqS_nx, sSeq_eq, lu2, sFor_ok e4]
  have e5 : sLoop (gNm 3) lu2b [.gl "alike", .gl "parting", .gl "turns"] [some (planD ws xs), some (planD vs ys), some (.own S.length), none] (S ++ [.lst []]) = .nx [some (planD ws xs), some (planD vs ys), some (.own S.length), some (.gl "turns")] (S ++ [.lst [.str "unlike", .str "unlike", .str "unlike"]]) :=
    (sLoop_step (ρ1 := [some (planD ws xs), some (planD vs ys), some (.own S.length), some (.gl "alike")]) rfl (lp "alike" [] (by simp) (.inl rfl))).trans
      ((sLoop_step (ρ1 := [some (planD ws xs), some (planD vs ys), some (.own S.length), some (.gl "parting")]) rfl (lp "parting" [.str "unlike"] (by simp) (.inr (.inl rfl)))).trans
        (sLoop_step (ρ1 := [some (planD ws xs), some (planD vs ys), some (.own S.length), some (.gl "turns")]) rfl (lp "turns" [.str "unlike", .str "unlike"] (by simp) (.inr (.inr rfl)))))
  rw [e5, seqS_nx]
  simp [lu3, m1, e1]
theorem oneOther_ok {ws : List D} {xs : List Deed} (h : Pln ws xs) (hl : xs.length ≤ 6) {ys : List Deed} (g : Pln ws ys) (x0 x1 x2 x3 x4 x7 : Option D) (S : Sto) : ∃ S1, Grow S S1 ∧ lw1b3b [x0, x1, x2, x3, x4, some (planD ws xs), some (planD ws ys), x7] S = .nx [x0, x1, x2, x3, x4, some (planD ws xs), some (planD ws ys), x7] S1 := by
  by_cases c : ys.length ≤ 6
  · obtain ⟨S1, g1, e⟩ := right_eq (S := S) h g rfl hl c
    have c' : (ys.length : Int) < 7 := by omega
    exact ⟨S1, g1, by simp [lw1b3b, planD_ix1, c', e]⟩
  · have c' : ¬ ((ys.length : Int) < 7) := by omega
    exact ⟨S, Grow.refl S, by simp [lw1b3b, planD_ix1, c']⟩
theorem cell_ok (c : Int) (x0 x2 x3 x4 x5 x6 x7 : Option D) (S : Sto) : ∃ y4 y5 y6 y7 S', lw1b [x0, some (.int c), x2, x3, x4, x5, x6, x7] S = .nx [x0, some (.int c), x2, x3, y4, y5, y6, y7] S' := by
  obtain ⟨a, b, hs, h0, h1⟩ := stack_eq (c := c) (s := 33) (S := S) (by omega)
  have t1 : lw1b1 [x0, some (.int c), x2, x3, x4, x5, x6, x7] S = .nx [x0, some (.int c), x2, x3, some (.own S.length), x5, x6, x7] (S ++ [.lst [.int a, .int b]]) := by
    simp [lw1b1, hs]
  have hk := St.new (S := S) (a := a) h0 h1
  obtain ⟨d, S1, e1, u1, ws, xs, rfl, hw0, hw1, hw, hxl, hx⟩ := plan_eq (m := 3) (q := 3) hk (by omega) (by omega) (by omega) (by omega)
  have hP : Pln ws xs := ⟨hw, hw0, by simp at hw1; omega, hx⟩
  have hw3 : ws.length ≤ 3 := by simpa using hw1
  have hxl : xs.length ≤ 3 := by simpa using hxl
  have k1 := u1.st hk
  have t2 : lw1b2 [x0, some (.int c), x2, x3, some (.own S.length), x5, x6, x7] (S ++ [.lst [.int a, .int b]]) = .nx [x0, some (.int c), x2, x3, some (.own S.length), some (planD ws xs), x6, x7] S1 := by
    simp [lw1b2, e1]
  obtain ⟨_, S2, e2, u2, y1, rfl, p1, l1⟩ := other_eq k1 hP (by omega)
  have k2 := u2.st k1
  obtain ⟨_, S3, e3, u3, y2, rfl, p2, l2⟩ := other_eq k2 hP (by omega)
  have k3 := u3.st k2
  obtain ⟨_, S4, e4, u4, y3, rfl, p3, l3⟩ := other_eq k3 p2 (by omega)
  have hit : lw1b3i [x0, some (.int c), x2, x3, some (.own S.length), some (planD ws xs), x6, x7] S1 = .ok [planD ws y1, planD ws y3, planD ws xs] S4 := by
    simp only [lw1b3i, semItems_eq, semTup_eq, semCons_eq, semNil_eq, semCall_eq, semVar_eq, List.getElem?_cons_zero, List.getElem?_cons_succ, bind_ok, List.length_cons, List.length_nil, if_true, e2, e3, e4, kl, show (0 + 1 + 1 + 1 ≤ 16777216) from by omega]
    rfl
  obtain ⟨S5, g5, e5⟩ := oneOther_ok hP (by omega) p1 x0 (some (.int c)) x2 x3 (some (.own S.length)) x7 S4
  obtain ⟨S6, g6, e6⟩ := oneOther_ok hP (by omega) p3 x0 (some (.int c)) x2 x3 (some (.own S.length)) x7 S5
  obtain ⟨S7, g7, e7⟩ := oneOther_ok hP (by omega) hP x0 (some (.int c)) x2 x3 (some (.own S.length)) x7 S6
  have t3 : lw1b3 [x0, some (.int c), x2, x3, some (.own S.length), some (planD ws xs), x6, x7] S1 = .nx [x0, some (.int c), x2, x3, some (.own S.length), some (planD ws xs), some (planD ws xs), x7] S7 := by
    rw [lw1b3, sFor_ok hit]
    rw [sLoop_step (ρ1 := [x0, some (.int c), x2, x3, some (.own S.length), some (planD ws xs), some (planD ws y1), x7]) rfl e5]
    rw [sLoop_step (ρ1 := [x0, some (.int c), x2, x3, some (.own S.length), some (planD ws xs), some (planD ws y3), x7]) rfl e6]
    rw [sLoop_step (ρ1 := [x0, some (.int c), x2, x3, some (.own S.length), some (planD ws xs), some (planD ws xs), x7]) rfl e7]
    rfl
  have hD : Pln (ws ++ [.str "d"]) xs := ⟨fun x hx => by
    rcases List.mem_append.mp hx with hx | hx
    · exact hw x hx
    · obtain rfl : x = .str "d" := by simpa using hx
      decide +kernel, by simp; omega, by simp; omega, hP.x⟩
  have ca := fun S => cat_tup (a := ws) (b := [.str "d"]) (S := S) (by simp; omega)
  have t4 : lw1b4 [x0, some (.int c), x2, x3, some (.own S.length), some (planD ws xs), some (planD ws xs), x7] S7 = .nx [x0, some (.int c), x2, x3, some (.own S.length), some (planD ws xs), some (planD ws xs), some (planD (ws ++ [.str "d"]) xs)] S7 := by
    simp only [lw1b4, sAsg_eq, semTup_eq, semCons_eq, semNil_eq, sem2_eq, semVar_eq, semC_eq, List.getElem?_cons_zero, List.getElem?_cons_succ, bind_ok, planD_ix0, planD_ix1, List.length_cons, List.length_nil, kl, show (0 + 1 ≤ 16777216) from by omega, show (0 + 1 + 1 ≤ 16777216) from by omega, if_true, ca, toS_ok, gNm_eq, optS_some, List.set_cons_succ, List.set_cons_zero]
    rfl
  obtain ⟨S8, g8, e8⟩ := refused_eq (S := S7) hP hD (by omega) (by omega) (by simp)
  obtain ⟨S9, g9, e9⟩ := refused_eq (S := S8) hD hP (by omega) (by omega) (by simp)
  have t5 : lw1b5 [x0, some (.int c), x2, x3, some (.own S.length), some (planD ws xs), some (planD ws xs), some (planD (ws ++ [.str "d"]) xs)] S7 = .nx [x0, some (.int c), x2, x3, some (.own S.length), some (planD ws xs), some (planD ws xs), some (planD (ws ++ [.str "d"]) xs)] S9 := by
    simp [lw1b5, e8, e9]
  exact ⟨_, _, _, _, S9, by rw [lw1b, sSeq_eq, t1, seqS_nx, sSeq_eq, t2, seqS_nx, sSeq_eq, t3, seqS_nx, sSeq_eq, t4, seqS_nx, t5]⟩
def kw : List D := [.str "a", .str "b"]
def kx : List Deed := [.turn false 2 1]
def qx : List Deed := [.turn false 2 0]
def ox : List Deed := [.turn false 2 1, .move false false 1]
theorem kP : Pln kw kx := ⟨by decide +kernel, by decide, by decide, by
  intro x hx
  simp only [kx, List.mem_cons, List.not_mem_nil, or_false] at hx
  subst hx; exact ⟨by decide, by decide, by decide, by decide⟩⟩
theorem qP : Pln kw qx := ⟨by decide +kernel, by decide, by decide, by
  intro x hx
  simp only [qx, List.mem_cons, List.not_mem_nil, or_false] at hx
  subst hx; exact ⟨by decide, by decide, by decide, by decide⟩⟩
theorem oP : Pln kw ox := ⟨by decide +kernel, by decide, by decide, by
  intro x hx
  simp only [ox, List.mem_cons, List.not_mem_nil, or_false] at hx
  rcases hx with rfl | rfl
  · exact ⟨by decide, by decide, by decide, by decide⟩
  · exact ⟨by decide, by decide, by decide⟩⟩
theorem top_k : topN 2 kx qx = 4 ∧ topN 2 kx ox = 6 ∧ topN 2 ox ox = 6 := by decide +kernel
theorem turn_k : turnL kw kx kw qx 4 = ([("over" : Str)] : List Str) := by decide +kernel
theorem part_o : partD kw ox kw ox 6 = none := (partD_none rfl).mpr fun n _ _ => rfl
theorem cell1 : (upsN 2).findSome? (rowP (bdT kw kx 1) (bdT kw ox 1) 1) = none := by
  have h0 : bdT kw kx 1 0 0 = bdT kw ox 1 0 0 := by decide +kernel
  have h1 : bdT kw kx 1 1 0 = bdT kw ox 1 1 0 := by decide +kernel
  have u2 : upsN 2 = [.int 0, .int 1] := rfl
  have u1 : upsN 1 = [.int 0] := rfl
  rw [u2]
  simp [rowP, u1, cellP, h0, h1]
theorem cell2 : (upsN 2).findSome? (rowP (bdT kw kx 2) (bdT kw ox 2) 2) = some (.tup [.int 2, .int 0, .int 0]) := by
  have h0 : ¬ (bdT kw kx 2 0 0 = bdT kw ox 2 0 0) := by decide +kernel
  have u2 : upsN 2 = [.int 0, .int 1] := rfl
  rw [u2]
  simp [rowP, u2, cellP, h0]
theorem part_k : partD kw kx kw ox 6 = some (.tup [.int 2, .int 0, .int 0]) := by
  have u : numsN 6 = [.int 1, .int 2, .int 3, .int 4, .int 5, .int 6] := rfl
  have n1 : numP kw kx kw ox (.int 1) = none := cell1
  have n2 : numP kw kx kw ox (.int 2) = some (.tup [.int 2, .int 0, .int 0]) := cell2
  unfold partD
  rw [u, List.findSome?_cons, n1, List.findSome?_cons, n2]
theorem tail_ok (x0 x1 x2 x3 x4 x5 x6 x7 : Option D) (S : Sto) : ∃ S1, sSeq lw2 (sSeq lw3 (sSeq lw4 lw5)) [x0, x1, x2, x3, x4, x5, x6, x7] S = .rt (.bl true) S1 := by
  obtain ⟨h4, h6, h6'⟩ := top_k
  have t2 : lw2 [x0, x1, x2, x3, x4, x5, x6, x7] S = .nx [x0, x1, some (planD kw kx), x3, x4, x5, x6, x7] S := by
    simp [lw2, planD, kw, kx, Deed.d, sd]
  have n1 := turns_eq (S := S) kP qP (by decide) (by decide) rfl (by show topN 2 kx qx ≤ 10000; omega)
  have n1 : g_turns [planD kw kx, planD kw qx] S = .ok (.own S.length) (S ++ [.lst ((turnL kw kx kw qx (topN 2 kx qx)).map .str)]) := n1
  rw [h4, turn_k] at n1
  have n1 : g_turns [planD kw kx, .tup [.tup [.str "a", .str "b"], .tup [.tup [.str "slices", .str "turn", .int 2, .int 0]]]] S = .ok (.own S.length) (S ++ [.lst [.str "over"]]) := n1
  have q1 : opNe (.own S.length) (.lst [.str "over"]) (S ++ [.lst [.str "over"]]) = .ok (.bl false) (S ++ [.lst [.str "over"]]) := by
    rw [(own_eqs (ys := [.str "over"]) (by simp [lstOf])).1]
    exact (opEq_lst (w := 10) (n := 1) (by
      have : ("over" : Str).length ≤ 10 ∧ PyData.strOk "over" = true := by decide +kernel
      refine ⟨by simp, fun d hd => ?_⟩
      simp only [List.mem_cons, List.not_mem_nil, or_false] at hd
      subst hd; exact this) (by omega)).1
  have t3 : lw3 [x0, x1, some (planD kw kx), x3, x4, x5, x6, x7] S = .nx [x0, x1, some (planD kw kx), x3, x4, x5, x6, x7] (S ++ [.lst [.str "over"]]) := by
    simp [lw3, n1, q1]
  have t4 : lw4 [x0, x1, some (planD kw kx), x3, x4, x5, x6, x7] (S ++ [.lst [.str "over"]]) = .nx [x0, x1, some (planD kw kx), some (planD kw ox), x4, x5, x6, x7] (S ++ [.lst [.str "over"]]) := by
    simp [lw4, planD, kw, ox, Deed.d, sd, mv]
  have n2 := parting_eq (S := S ++ [.lst [.str "over"]]) kP oP (by decide) (by decide) rfl (by show topN 2 kx ox ≤ 10000; omega)
  have n3 := parting_eq (S := S ++ [.lst [.str "over"]]) oP oP (by decide) (by decide) rfl (by show topN 2 ox ox ≤ 10000; omega)
  have n2 : g_parting [planD kw kx, planD kw ox] (S ++ [.lst [.str "over"]]) = .ok (optD (partD kw kx kw ox (topN 2 kx ox))) (S ++ [.lst [.str "over"]]) := n2
  have n3 : g_parting [planD kw ox, planD kw ox] (S ++ [.lst [.str "over"]]) = .ok (optD (partD kw ox kw ox (topN 2 ox ox))) (S ++ [.lst [.str "over"]]) := n3
  rw [h6, part_k] at n2
  rw [h6', part_o] at n3
  have n2 : g_parting [planD kw kx, planD kw ox] (S ++ [.lst [.str "over"]]) = .ok (.tup [.int 2, .int 0, .int 0]) (S ++ [.lst [.str "over"]]) := n2
  have n3 : g_parting [planD kw ox, planD kw ox] (S ++ [.lst [.str "over"]]) = .ok .non (S ++ [.lst [.str "over"]]) := n3
  have q2 := (opNe_self (w := 10) (n := 1) (S := S ++ [.lst [.str "over"]]) (xs := [.int 2, .int 0, .int 0]) (by simp [Val]) (by omega)).2
  have t5 : lw5 [x0, x1, some (planD kw kx), some (planD kw ox), x4, x5, x6, x7] (S ++ [.lst [.str "over"]]) = .rt (.bl true) (S ++ [.lst [.str "over"]]) := by
    simp [lw5, n2, n3, q2, opIs, isNone]
  exact ⟨_, by rw [sSeq_eq, t2, seqS_nx, sSeq_eq, t3, seqS_nx, sSeq_eq, t4, seqS_nx, t5]⟩
theorem law_true (ns : List Int) (sc : D) (S : Sto) (h : ScriptAt ns sc S) (hl : ns.length ≤ 63) : ∃ S1, g_law [sc] S = .ok (.bl true) S1 := by
  have hit : lw1i [some sc, none, none, none, none, none, none, none] S = .ok (cutD (.int 0 :: ns.map .int) none (some 5)) S := by
    have := cells_it h hl 5
    simp only [lw1i, semItems_eq, semSl, OEx.run, sem2_eq, semLst_eq, semCons_eq, semNil_eq, semC_eq, semVar_eq, List.getElem?_cons_zero, bind_ok, List.length_cons, List.length_nil, kl, show (0 + 1 ≤ 16777216) from by omega, if_true]
    rw [this]
    rfl
  obtain ⟨ρ', S', e, x1, x4, x5, x6, x7, rfl⟩ := sLoop_inv (g := gNm 1) (fb := lw1b) (fun ρ _ => ∃ x1 x4 x5 x6 x7, ρ = [some sc, x1, none, none, x4, x5, x6, x7]) (ds := cutD (.int 0 :: ns.map D.int) none (some 5)) (ρ := [some sc, none, none, none, none, none, none, none]) (S := S) ⟨_, _, _, _, _, rfl⟩ (by
    rintro d hd ρ S ⟨x1, x4, x5, x6, x7, rfl⟩
    obtain ⟨i, rfl⟩ := cells_int d hd
    obtain ⟨y4, y5, y6, y7, S1, e⟩ := cell_ok i (some sc) none none x4 x5 x6 x7 S
    exact ⟨_, _, _, rfl, e, some (.int i), y4, y5, y6, y7, rfl⟩)
  have hf : lw1 [some sc, none, none, none, none, none, none, none] S = _ := (sFor_ok hit).trans e
  obtain ⟨S2, ht⟩ := tail_ok (some sc) x1 none none x4 x5 x6 x7 S'
  refine ⟨S2, ?_⟩
  have e2 : g_law [sc] S = finR (sSeq lw1 (sSeq lw2 (sSeq lw3 (sSeq lw4 lw5))) [some sc, none, none, none, none, none, none, none] S) := rfl
  rw [e2, sSeq_eq, hf, seqS_nx, ht]
  rfl
end K06
namespace K06
open PySem L2 PyProof.Rows GB Sh
def top (i : Nat) : Stmt := PySem.Challenge.pw_gluedboards_k06_plans_beside_each_other.main.body.getD i (.Pass ⟨0, 0, 0, 0⟩)
abbrev s_is_number : Stmt := top 7
def d_is_number : He.DefD := ⟨("is_number", none), "is_number", "is_number", defArgs s_is_number, defBody s_is_number, defScope s_is_number, [], []⟩
abbrev s_are_woods : Stmt := top 8
def d_are_woods : He.DefD := ⟨("are_woods", none), "are_woods", "are_woods", defArgs s_are_woods, defBody s_are_woods, defScope s_are_woods, [], []⟩
abbrev s_is_deed_of : Stmt := top 9
def d_is_deed_of : He.DefD := ⟨("is_deed_of", none), "is_deed_of", "is_deed_of", defArgs s_is_deed_of, defBody s_is_deed_of, defScope s_is_deed_of, [], []⟩
abbrev s_is_plan_of : Stmt := top 10
def d_is_plan_of : He.DefD := ⟨("is_plan_of", none), "is_plan_of", "is_plan_of", defArgs s_is_plan_of, defBody s_is_plan_of, defScope s_is_plan_of, [], []⟩
abbrev s_need_plan : Stmt := top 11
def d_need_plan : He.DefD := ⟨("need_plan", none), "need_plan", "need_plan", defArgs s_need_plan, defBody s_need_plan, defScope s_need_plan, [], []⟩
abbrev s_rolled : Stmt := top 13
def d_rolled : He.DefD := ⟨("rolled", none), "rolled", "rolled", defArgs s_rolled, defBody s_rolled, defScope s_rolled, [], []⟩
abbrev s_columns_of : Stmt := top 14
def d_columns_of : He.DefD := ⟨("columns_of", none), "columns_of", "columns_of", defArgs s_columns_of, defBody s_columns_of, defScope s_columns_of, [], []⟩
abbrev s_from_columns : Stmt := top 15
def d_from_columns : He.DefD := ⟨("from_columns", none), "from_columns", "from_columns", defArgs s_from_columns, defBody s_from_columns, defScope s_from_columns, [], []⟩
abbrev s_done_to : Stmt := top 16
def d_done_to : He.DefD := ⟨("done_to", none), "done_to", "done_to", defArgs s_done_to, defBody s_done_to, defScope s_done_to, [], []⟩
abbrev s_behind : Stmt := top 17
def d_behind : He.DefD := ⟨("behind", none), "behind", "behind", defArgs s_behind, defBody s_behind, defScope s_behind, [], []⟩
abbrev s_strips : Stmt := top 18
def d_strips : He.DefD := ⟨("strips", none), "strips", "strips", defArgs s_strips, defBody s_strips, defScope s_strips, [], []⟩
abbrev s_board_of : Stmt := top 19
def d_board_of : He.DefD := ⟨("board_of", none), "board_of", "board_of", defArgs s_board_of, defBody s_board_of, defScope s_board_of, [], []⟩
abbrev s_common : Stmt := top 21
def d_common : He.DefD := ⟨("common", none), "common", "common", defArgs s_common, defBody s_common, defScope s_common, [], []⟩
abbrev s_period_of : Stmt := top 22
def d_period_of : He.DefD := ⟨("period_of", none), "period_of", "period_of", defArgs s_period_of, defBody s_period_of, defScope s_period_of, [], []⟩
abbrev s_reach_of : Stmt := top 23
def d_reach_of : He.DefD := ⟨("reach_of", none), "reach_of", "reach_of", defArgs s_reach_of, defBody s_reach_of, defScope s_reach_of, [], []⟩
abbrev s_top_of : Stmt := top 26
def d_top_of : He.DefD := ⟨("top_of", none), "top_of", "top_of", defArgs s_top_of, defBody s_top_of, defScope s_top_of, [], []⟩
abbrev s_parted : Stmt := top 27
def d_parted : He.DefD := ⟨("parted", none), "parted", "parted", defArgs s_parted, defBody s_parted, defScope s_parted, [], []⟩
abbrev s_turned : Stmt := top 28
def d_turned : He.DefD := ⟨("turned", none), "turned", "turned", defArgs s_turned, defBody s_turned, defScope s_turned, [], []⟩
abbrev s_need_both : Stmt := top 29
def d_need_both : He.DefD := ⟨("need_both", none), "need_both", "need_both", defArgs s_need_both, defBody s_need_both, defScope s_need_both, [], []⟩
abbrev s_alike : Stmt := top 30
def d_alike : He.DefD := ⟨("alike", none), "alike", "alike", defArgs s_alike, defBody s_alike, defScope s_alike, [], []⟩
abbrev s_parting : Stmt := top 31
def d_parting : He.DefD := ⟨("parting", none), "parting", "parting", defArgs s_parting, defBody s_parting, defScope s_parting, [], []⟩
abbrev s_turns : Stmt := top 32
def d_turns : He.DefD := ⟨("turns", none), "turns", "turns", defArgs s_turns, defBody s_turns, defScope s_turns, [], []⟩
abbrev s__law_stack : Stmt := top 34
def d__law_stack : He.DefD := ⟨("_law_stack", none), "_law_stack", "_law_stack", defArgs s__law_stack, defBody s__law_stack, defScope s__law_stack, [], []⟩
abbrev s__law_saw : Stmt := top 35
def d__law_saw : He.DefD := ⟨("_law_saw", none), "_law_saw", "_law_saw", defArgs s__law_saw, defBody s__law_saw, defScope s__law_saw, [], []⟩
abbrev s__law_pick : Stmt := top 36
def d__law_pick : He.DefD := ⟨("_law_pick", none), "_law_pick", "_law_pick", defArgs s__law_pick, defBody s__law_pick, defScope s__law_pick, [], []⟩
abbrev s__law_deed : Stmt := top 37
def d__law_deed : He.DefD := ⟨("_law_deed", none), "_law_deed", "_law_deed", defArgs s__law_deed, defBody s__law_deed, defScope s__law_deed, [], []⟩
abbrev s__law_woods : Stmt := top 38
def d__law_woods : He.DefD := ⟨("_law_woods", none), "_law_woods", "_law_woods", defArgs s__law_woods, defBody s__law_woods, defScope s__law_woods, [], []⟩
abbrev s__law_plan : Stmt := top 39
def d__law_plan : He.DefD := ⟨("_law_plan", none), "_law_plan", "_law_plan", defArgs s__law_plan, defBody s__law_plan, defScope s__law_plan, [], []⟩
abbrev s__law_strips : Stmt := top 40
def d__law_strips : He.DefD := ⟨("_law_strips", none), "_law_strips", "_law_strips", defArgs s__law_strips, defBody s__law_strips, defScope s__law_strips, [], []⟩
abbrev s__law_goal : Stmt := top 41
def d__law_goal : He.DefD := ⟨("_law_goal", none), "_law_goal", "_law_goal", defArgs s__law_goal, defBody s__law_goal, defScope s__law_goal, [], []⟩
abbrev s__law_rows : Stmt := top 42
def d__law_rows : He.DefD := ⟨("_law_rows", none), "_law_rows", "_law_rows", defArgs s__law_rows, defBody s__law_rows, defScope s__law_rows, [], []⟩
abbrev s__law_done : Stmt := top 43
def d__law_done : He.DefD := ⟨("_law_done", none), "_law_done", "_law_done", defArgs s__law_done, defBody s__law_done, defScope s__law_done, [], []⟩
abbrev s__law_board : Stmt := top 44
def d__law_board : He.DefD := ⟨("_law_board", none), "_law_board", "_law_board", defArgs s__law_board, defBody s__law_board, defScope s__law_board, [], []⟩
abbrev s__law_bounds : Stmt := top 45
def d__law_bounds : He.DefD := ⟨("_law_bounds", none), "_law_bounds", "_law_bounds", defArgs s__law_bounds, defBody s__law_bounds, defScope s__law_bounds, [], []⟩
abbrev s__law_top : Stmt := top 46
def d__law_top : He.DefD := ⟨("_law_top", none), "_law_top", "_law_top", defArgs s__law_top, defBody s__law_top, defScope s__law_top, [], []⟩
abbrev s__law_first : Stmt := top 47
def d__law_first : He.DefD := ⟨("_law_first", none), "_law_first", "_law_first", defArgs s__law_first, defBody s__law_first, defScope s__law_first, [], []⟩
abbrev s__law_turned : Stmt := top 48
def d__law_turned : He.DefD := ⟨("_law_turned", none), "_law_turned", "_law_turned", defArgs s__law_turned, defBody s__law_turned, defScope s__law_turned, [], []⟩
abbrev s__law_other : Stmt := top 49
def d__law_other : He.DefD := ⟨("_law_other", none), "_law_other", "_law_other", defArgs s__law_other, defBody s__law_other, defScope s__law_other, [], []⟩
abbrev s__law_right : Stmt := top 50
def d__law_right : He.DefD := ⟨("_law_right", none), "_law_right", "_law_right", defArgs s__law_right, defBody s__law_right, defScope s__law_right, [], []⟩
abbrev s__law_refused : Stmt := top 51
def d__law_refused : He.DefD := ⟨("_law_refused", none), "_law_refused", "_law_refused", defArgs s__law_refused, defBody s__law_refused, defScope s__law_refused, [], []⟩
abbrev s_law : Stmt := top 52
def d_law : He.DefD := ⟨("law", none), "law", "law", defArgs s_law, defBody s_law, defScope s_law, [], []⟩
def fn0 : List He.DefD := [d_is_number, d_are_woods, d_is_deed_of, d_is_plan_of, d_need_plan, d_rolled, d_columns_of, d_from_columns, d_done_to, d_behind, d_strips, d_board_of, d_common, d_period_of, d_reach_of, d_top_of, d_parted, d_turned, d_need_both, d_alike]
def fn1 : List He.DefD := [d_parting, d_turns, d__law_stack, d__law_saw, d__law_pick, d__law_deed, d__law_woods, d__law_plan, d__law_strips, d__law_goal, d__law_rows, d__law_done, d__law_board, d__law_bounds, d__law_top, d__law_first, d__law_turned, d__law_other, d__law_right, d__law_refused]
def fn2 : List He.DefD := [d_law]
def fn : List He.DefD := fn0 ++ (fn1 ++ (fn2))
def fa0 : List He.Fa := [.glo "is_number", .glo "are_woods", .glo "is_deed_of", .glo "is_plan_of", .glo "need_plan", .glo "rolled", .glo "columns_of", .glo "from_columns", .glo "done_to", .glo "behind", .glo "strips", .glo "board_of", .glo "common", .glo "period_of", .glo "reach_of", .glo "top_of", .glo "parted", .glo "turned", .glo "need_both", .glo "alike"]
def fa1 : List He.Fa := [.glo "parting", .glo "turns", .glo "_law_stack", .glo "_law_saw", .glo "_law_pick", .glo "_law_deed", .glo "_law_woods", .glo "_law_plan", .glo "_law_strips", .glo "_law_goal", .glo "_law_rows", .glo "_law_done", .glo "_law_board", .glo "_law_bounds", .glo "_law_top", .glo "_law_first", .glo "_law_turned", .glo "_law_other", .glo "_law_right", .glo "_law_refused"]
def fa2 : List He.Fa := [.glo "law", .glo "BoardError", .exc "BoardError", .glo "InvalidPlan", .exc "InvalidPlan", .glo "Unlike", .exc "Unlike", .str "LETTERS" "abcd", .int "MOST_DEEDS" 6, .free "len", .free "range", .free "isinstance", .free "int", .free "str", .free "bool", .free "tuple", .free "list", .free "all", .free "abs", .free "max"]
def fa3 : List He.Fa := [.free "min", .free "enumerate", .exm "InvalidPlan" "BoardError" true, .exm "InvalidPlan" "Unlike" false, .exm "Unlike" "BoardError" true, .exm "Unlike" "Unlike" true]
def fa : List He.Fa := fa0 ++ (fa1 ++ (fa2 ++ (fa3)))
def nms0 : List Str := ["BoardError", "InvalidPlan", "Unlike", "LETTERS", "MOST_DEEDS", "is_number", "are_woods", "is_deed_of", "is_plan_of", "need_plan", "rolled", "columns_of", "from_columns", "done_to", "behind", "strips", "board_of", "common", "period_of", "reach_of"]
def nms1 : List Str := ["TURNS", "top_of", "parted", "turned", "need_both", "alike", "parting", "turns", "_law_stack", "_law_saw", "_law_pick", "_law_deed", "_law_woods", "_law_plan", "_law_strips", "_law_goal", "_law_rows", "_law_done", "_law_board", "_law_bounds"]
def nms2 : List Str := ["_law_top", "_law_first", "_law_turned", "_law_other", "_law_right", "_law_refused"]
def nms : List Str := nms0 ++ (nms1 ++ (nms2))
def exF (K : PySem.W.Frag) : Bool := tupB K "TURNS" ["both", "ends", "none", "over"] && (true)
abbrev Ro : PySem.W.OpenRow := PySem.W.OpenLaw.row PySem.Challenge.rw_gluedboards_k06_plans_beside_each_other
abbrev hk : PySem.W.Hook := He.hookX 4 fa fn [] (tfA fn) (exA fn exF)
def ob (s : PySem.W.SharedT) : He.AlX := He.obsX 4 fa fn [] (tfA fn) (exA fn exF) (HandSHeadRun.getT s)
theorem ob_eq (s : PySem.W.SharedT) : ob s = hk.obs s.abs := He.obsX_eq (HandSHeadRun.getT_eq s)
theorem run (w : World) : HandSHeadRun.RunEq Ro (PySem.W.view Ro.prog [52]) hk ob 3000 nms w := by
  intro os
  kernel_rfl
section
variable {p : Pc} (T : Top p fa fn exF)
include T
theorem ex_BoardError : ExF p ("BoardError" : Str) := T.exc 41 42
theorem cl_BoardError : ∃ C, p.mg ("BoardError" : Str) = some (.ref C) := T.glo 41
theorem ex_InvalidPlan : ExF p ("InvalidPlan" : Str) := T.exc 43 44
theorem cl_InvalidPlan : ∃ C, p.mg ("InvalidPlan" : Str) = some (.ref C) := T.glo 43
theorem ex_Unlike : ExF p ("Unlike" : Str) := T.exc 45 46
theorem cl_Unlike : ∃ C, p.mg ("Unlike" : Str) = some (.ref C) := T.glo 45
theorem gc_LETTERS : GC p ("LETTERS" : Str) (.str "abcd") := T.str 47
theorem gc_MOST_DEEDS : GC p ("MOST_DEEDS" : Str) (.int 6) := T.int 48
theorem fr_len : p.mg ("len" : Str) = none := T.free 49
theorem fr_range : p.mg ("range" : Str) = none := T.free 50
theorem fr_isinstance : p.mg ("isinstance" : Str) = none := T.free 51
theorem fr_int : p.mg ("int" : Str) = none := T.free 52
theorem fr_str : p.mg ("str" : Str) = none := T.free 53
theorem fr_bool : p.mg ("bool" : Str) = none := T.free 54
theorem fr_tuple : p.mg ("tuple" : Str) = none := T.free 55
theorem fr_list : p.mg ("list" : Str) = none := T.free 56
theorem fr_all : p.mg ("all" : Str) = none := T.free 57
theorem fr_abs : p.mg ("abs" : Str) = none := T.free 58
theorem fr_max : p.mg ("max" : Str) = none := T.free 59
theorem fr_min : p.mg ("min" : Str) = none := T.free 60
theorem fr_enumerate : p.mg ("enumerate" : Str) = none := T.free 61
theorem gt_TURNS : GT p ("TURNS" : Str) ["both", "ends", "none", "over"] := tup_gt T.K (He.ba T.ex).1
theorem df_is_number : DefF p ("is_number" : Str) s_is_number := T.def_ 0 0
theorem df_are_woods : DefF p ("are_woods" : Str) s_are_woods := T.def_ 1 1
theorem df_is_deed_of : DefF p ("is_deed_of" : Str) s_is_deed_of := T.def_ 2 2
theorem df_is_plan_of : DefF p ("is_plan_of" : Str) s_is_plan_of := T.def_ 3 3
theorem df_need_plan : DefF p ("need_plan" : Str) s_need_plan := T.def_ 4 4
theorem df_rolled : DefF p ("rolled" : Str) s_rolled := T.def_ 5 5
theorem df_columns_of : DefF p ("columns_of" : Str) s_columns_of := T.def_ 6 6
theorem df_from_columns : DefF p ("from_columns" : Str) s_from_columns := T.def_ 7 7
theorem df_done_to : DefF p ("done_to" : Str) s_done_to := T.def_ 8 8
theorem df_behind : DefF p ("behind" : Str) s_behind := T.def_ 9 9
theorem df_strips : DefF p ("strips" : Str) s_strips := T.def_ 10 10
theorem df_board_of : DefF p ("board_of" : Str) s_board_of := T.def_ 11 11
theorem df_common : DefF p ("common" : Str) s_common := T.def_ 12 12
theorem df_period_of : DefF p ("period_of" : Str) s_period_of := T.def_ 13 13
theorem df_reach_of : DefF p ("reach_of" : Str) s_reach_of := T.def_ 14 14
theorem df_top_of : DefF p ("top_of" : Str) s_top_of := T.def_ 15 15
theorem df_parted : DefF p ("parted" : Str) s_parted := T.def_ 16 16
theorem df_turned : DefF p ("turned" : Str) s_turned := T.def_ 17 17
theorem df_need_both : DefF p ("need_both" : Str) s_need_both := T.def_ 18 18
theorem df_alike : DefF p ("alike" : Str) s_alike := T.def_ 19 19
theorem df_parting : DefF p ("parting" : Str) s_parting := T.def_ 20 20
theorem df_turns : DefF p ("turns" : Str) s_turns := T.def_ 21 21
theorem df__law_stack : DefF p ("_law_stack" : Str) s__law_stack := T.def_ 22 22
theorem df__law_saw : DefF p ("_law_saw" : Str) s__law_saw := T.def_ 23 23
theorem df__law_pick : DefF p ("_law_pick" : Str) s__law_pick := T.def_ 24 24
theorem df__law_deed : DefF p ("_law_deed" : Str) s__law_deed := T.def_ 25 25
theorem df__law_woods : DefF p ("_law_woods" : Str) s__law_woods := T.def_ 26 26
theorem df__law_plan : DefF p ("_law_plan" : Str) s__law_plan := T.def_ 27 27
theorem df__law_strips : DefF p ("_law_strips" : Str) s__law_strips := T.def_ 28 28
theorem df__law_goal : DefF p ("_law_goal" : Str) s__law_goal := T.def_ 29 29
theorem df__law_rows : DefF p ("_law_rows" : Str) s__law_rows := T.def_ 30 30
theorem df__law_done : DefF p ("_law_done" : Str) s__law_done := T.def_ 31 31
theorem df__law_board : DefF p ("_law_board" : Str) s__law_board := T.def_ 32 32
theorem df__law_bounds : DefF p ("_law_bounds" : Str) s__law_bounds := T.def_ 33 33
theorem df__law_top : DefF p ("_law_top" : Str) s__law_top := T.def_ 34 34
theorem df__law_first : DefF p ("_law_first" : Str) s__law_first := T.def_ 35 35
theorem df__law_turned : DefF p ("_law_turned" : Str) s__law_turned := T.def_ 36 36
theorem df__law_other : DefF p ("_law_other" : Str) s__law_other := T.def_ 37 37
theorem df__law_right : DefF p ("_law_right" : Str) s__law_right := T.def_ 38 38
theorem df__law_refused : DefF p ("_law_refused" : Str) s__law_refused := T.def_ 39 39
theorem df_law : DefF p ("law" : Str) s_law := T.def_ 40 40
end
theorem tkf {p : Pc} (T : Top p fa fn exF) : TkF p tk := T.tk tkL (by
  intro e he
  simp only [tkL, List.mem_cons, List.not_mem_nil, or_false] at he
  rcases he with rfl | rfl | rfl | rfl
  · exact ⟨62, 43, 41, rfl, rfl, rfl⟩
  · exact ⟨63, 43, 45, rfl, rfl, rfl⟩
  · exact ⟨64, 45, 41, rfl, rfl, rfl⟩
  · exact ⟨65, 45, 45, rfl, rfl, rfl⟩)
end K06
namespace K06
open PySem L2 PyProof.Rows GB Sh
/-! is_number -/
abbrev N_is_number : List Str := ["value", "low", "high"]
theorem sc_is_number : FnScope N_is_number ["value", "low", "high"] (defScope s_is_number) := ⟨rfl, rfl, rfl, by decide +kernel, rfl, by decide +kernel, by decide +kernel⟩
theorem j_is_number {p : Pc} (T : Top p fa fn exF) : JSs p N_is_number 0 (ds s_is_number) (defBody s_is_number) sem_is_number :=
  (js_one (js_ret (je_and (je_isi (fr_isinstance T) (ja_cons (je_var 0) (ja_cons (je_ty (n := .int) (fr_int T) (by decide +kernel)) ja_nil))) (je_and (je_not (je_isi (fr_isinstance T) (ja_cons (je_var 0) (ja_cons (je_ty (n := .bool) (fr_bool T) (by decide +kernel)) ja_nil)))) (je_one (je_lele (je_var 1) (je_var 0) (je_var 2)))))))
theorem fn_is_number {p : Pc} (T : Top p fa fn exF) : Fn p "is_number" 1 3 g_is_number := fn_def (df_is_number T) sc_is_number (fun _ _ _ _ _ _ _ us hl => match us, hl with | [_, _, _], _ => rfl) (j_is_number T)
/-! are_woods -/
abbrev N_are_woods : List Str := ["value", "one"]
theorem sc_are_woods : FnScope N_are_woods ["value"] (defScope s_are_woods) := ⟨rfl, rfl, rfl, by decide +kernel, rfl, by decide +kernel, by decide +kernel⟩
theorem j_are_woods {p : Pc} (T : Top p fa fn exF) : JSs p N_are_woods 0 (ds s_are_woods) (defBody s_are_woods) sem_are_woods :=
  (js_cons (js_if (jt_w (jw_or (jt_not (jt_val (je_isi (fr_isinstance T) (ja_cons (je_var 0) (ja_cons (je_ty (n := .tuple) (fr_tuple T) (by decide +kernel)) ja_nil))))) (jw_or1 (jt_not (jt_lele je_int (je_len (fr_len T) (ja_cons (je_var 0) ja_nil)) je_int))))) (js_one (js_ret je_bl)) js_nil) (js_one (js_ret (je_all (fr_all T) (ja_cons (je_lc finD_ok [("one", 1)] (ji_seq (je_var 0)) (jg_name 1) jts_nil (je_and (je_isi (fr_isinstance T) (ja_cons (je_var 1) (ja_cons (je_ty (n := .str) (fr_str T) (by decide +kernel)) ja_nil))) (je_and (je_eq (je_len (fr_len T) (ja_cons (je_var 1) ja_nil)) je_int) (je_one (je_in (je_var 1) (je_glob (gc_LETTERS T))))))) ja_nil)))))
theorem fn_are_woods {p : Pc} (T : Top p fa fn exF) : Fn p "are_woods" 1 1 g_are_woods := fn_def (df_are_woods T) sc_are_woods (fun _ _ _ _ _ _ _ us hl => match us, hl with | [_], _ => rfl) (j_are_woods T)
/-! is_deed_of -/
abbrev N_is_deed_of : List Str := ["value"]
theorem sc_is_deed_of : FnScope N_is_deed_of ["value"] (defScope s_is_deed_of) := ⟨rfl, rfl, rfl, by decide +kernel, rfl, by decide +kernel, by decide +kernel⟩
theorem j_is_deed_of {p : Pc} (T : Top p fa fn exF) : JSs p N_is_deed_of 1 (ds s_is_deed_of) (defBody s_is_deed_of) sem_is_deed_of :=
  (js_cons (js_if (jt_w (jw_or (jt_not (jt_val (je_isi (fr_isinstance T) (ja_cons (je_var 0) (ja_cons (je_ty (n := .tuple) (fr_tuple T) (by decide +kernel)) ja_nil))))) (jw_or1 (jt_not (jt_lele je_int (je_len (fr_len T) (ja_cons (je_var 0) ja_nil)) je_int))))) (js_one (js_ret je_bl)) js_nil) (js_cons (js_if (jt_w (jw_or (jt_not (jt_val (je_isi (fr_isinstance T) (ja_cons (je_ix (je_var 0) je_int) (ja_cons (je_ty (n := .str) (fr_str T) (by decide +kernel)) ja_nil))))) (jw_or (jt_notin (je_ix (je_var 0) je_int) (je_tup (ja_cons je_str (ja_cons je_str ja_nil)))) (jw_or1 (jt_not (jt_val (je_isi (fr_isinstance T) (ja_cons (je_ix (je_var 0) je_int) (ja_cons (je_ty (n := .str) (fr_str T) (by decide +kernel)) ja_nil))))))))) (js_one (js_ret je_bl)) js_nil) (js_cons (js_if (jt_eq (je_ix (je_var 0) je_int) je_str) (js_one (js_ret (je_eq (je_len (fr_len T) (ja_cons (je_var 0) ja_nil)) je_int))) js_nil) (js_cons (js_if (jt_in (je_ix (je_var 0) je_int) (je_tup (ja_cons je_str (ja_cons je_str ja_nil)))) (js_one (js_ret (je_and (je_eq (je_len (fr_len T) (ja_cons (je_var 0) ja_nil)) je_int) (je_and (je_call (fn_is_number T) (ja_cons (je_ix (je_var 0) je_int) (ja_cons (je_neg je_int) (ja_cons je_int ja_nil)))) (je_one (je_ne (je_ix (je_var 0) je_int) je_int)))))) js_nil) (js_cons (js_if (jt_w (jw_or (jt_ne (je_ix (je_var 0) je_int) je_str) (jw_or (jt_ne (je_len (fr_len T) (ja_cons (je_var 0) ja_nil)) je_int) (jw_or1 (jt_not (jt_val (je_call (fn_is_number T) (ja_cons (je_ix (je_var 0) je_int) (ja_cons je_int (ja_cons je_int ja_nil)))))))))) (js_one (js_ret je_bl)) js_nil) (js_one (js_ret (je_call (fn_is_number T) (ja_cons (je_ix (je_var 0) je_int) (ja_cons je_int (ja_cons (je_sub (je_ix (je_var 0) je_int) je_int) ja_nil)))))))))))
theorem fn_is_deed_of {p : Pc} (T : Top p fa fn exF) : Fn p "is_deed_of" 2 1 g_is_deed_of := fn_def (df_is_deed_of T) sc_is_deed_of (fun _ _ _ _ _ _ _ us hl => match us, hl with | [_], _ => rfl) (j_is_deed_of T)
/-! is_plan_of -/
abbrev N_is_plan_of : List Str := ["value", "deed"]
theorem sc_is_plan_of : FnScope N_is_plan_of ["value"] (defScope s_is_plan_of) := ⟨rfl, rfl, rfl, by decide +kernel, rfl, by decide +kernel, by decide +kernel⟩
theorem j_is_plan_of {p : Pc} (T : Top p fa fn exF) : JSs p N_is_plan_of 2 (ds s_is_plan_of) (defBody s_is_plan_of) sem_is_plan_of :=
  (js_cons (js_if (jt_w (jw_or (jt_not (jt_val (je_isi (fr_isinstance T) (ja_cons (je_var 0) (ja_cons (je_ty (n := .tuple) (fr_tuple T) (by decide +kernel)) ja_nil))))) (jw_or (jt_ne (je_len (fr_len T) (ja_cons (je_var 0) ja_nil)) je_int) (jw_or1 (jt_not (jt_val (je_call (fn_are_woods T) (ja_cons (je_ix (je_var 0) je_int) ja_nil)))))))) (js_one (js_ret je_bl)) js_nil) (js_one (js_ret (je_and (je_isi (fr_isinstance T) (ja_cons (je_ix (je_var 0) je_int) (ja_cons (je_ty (n := .tuple) (fr_tuple T) (by decide +kernel)) ja_nil))) (je_and (je_le (je_len (fr_len T) (ja_cons (je_ix (je_var 0) je_int) ja_nil)) (je_glob (gc_MOST_DEEDS T))) (je_one (je_all (fr_all T) (ja_cons (je_lc finD_ok [("deed", 1)] (ji_seq (je_ix (je_var 0) je_int)) (jg_name 1) jts_nil (je_call (fn_is_deed_of T) (ja_cons (je_var 1) ja_nil))) ja_nil))))))))
theorem fn_is_plan_of {p : Pc} (T : Top p fa fn exF) : Fn p "is_plan_of" 3 1 g_is_plan_of := fn_def (df_is_plan_of T) sc_is_plan_of (fun _ _ _ _ _ _ _ us hl => match us, hl with | [_], _ => rfl) (j_is_plan_of T)
/-! need_plan -/
abbrev N_need_plan : List Str := ["plan"]
theorem sc_need_plan : FnScope N_need_plan ["plan"] (defScope s_need_plan) := ⟨rfl, rfl, rfl, by decide +kernel, rfl, by decide +kernel, by decide +kernel⟩
theorem j_need_plan {p : Pc} (T : Top p fa fn exF) : JSs p N_need_plan 3 (ds s_need_plan) (defBody s_need_plan) sem_need_plan :=
  (js_one (js_if (jt_not (jt_val (je_call (fn_is_plan_of T) (ja_cons (je_var 0) ja_nil)))) (js_one (js_raise (ex_InvalidPlan T))) js_nil))
theorem fn_need_plan {p : Pc} (T : Top p fa fn exF) : Fn p "need_plan" 4 1 g_need_plan := fn_def (df_need_plan T) sc_need_plan (fun _ _ _ _ _ _ _ us hl => match us, hl with | [_], _ => rfl) (j_need_plan T)
/-! rolled -/
abbrev N_rolled : List Str := ["row", "many", "at"]
theorem sc_rolled : FnScope N_rolled ["row", "many"] (defScope s_rolled) := ⟨rfl, rfl, rfl, by decide +kernel, rfl, by decide +kernel, by decide +kernel⟩
theorem j_rolled {p : Pc} (T : Top p fa fn exF) : JSs p N_rolled 0 (ds s_rolled) (defBody s_rolled) sem_rolled :=
  (js_cons (js_set 2 (je_mod (je_var 1) (je_len (fr_len T) (ja_cons (je_var 0) ja_nil)))) (js_one (js_ret (je_add (je_sl (je_var 0) (jo_e (je_sub (je_len (fr_len T) (ja_cons (je_var 0) ja_nil)) (je_var 2))) jo_no) (je_sl (je_var 0) jo_no (jo_e (je_sub (je_len (fr_len T) (ja_cons (je_var 0) ja_nil)) (je_var 2))))))))
theorem fn_rolled {p : Pc} (T : Top p fa fn exF) : Fn p "rolled" 1 2 g_rolled := fn_def (df_rolled T) sc_rolled (fun _ _ _ _ _ _ _ us hl => match us, hl with | [_, _], _ => rfl) (j_rolled T)
/-! columns_of -/
abbrev N_columns_of : List Str := ["board", "at", "row"]
theorem sc_columns_of : FnScope N_columns_of ["board"] (defScope s_columns_of) := ⟨rfl, rfl, rfl, by decide +kernel, rfl, by decide +kernel, by decide +kernel⟩
theorem j_columns_of {p : Pc} (T : Top p fa fn exF) : JSs p N_columns_of 0 (ds s_columns_of) (defBody s_columns_of) sem_columns_of :=
  (js_one (js_ret (je_lc finD_ok [("at", 1)] (ji_range1 (fr_range T) (ja_cons (je_len (fr_len T) (ja_cons (je_ix (je_var 0) je_int) ja_nil)) ja_nil)) (jg_name 1) jts_nil (je_join je_str (je_lc finD_ok [("row", 2)] (ji_seq (je_var 0)) (jg_name 2) jts_nil (je_ix (je_var 2) (je_var 1)))))))
theorem fn_columns_of {p : Pc} (T : Top p fa fn exF) : Fn p "columns_of" 1 1 g_columns_of := fn_def (df_columns_of T) sc_columns_of (fun _ _ _ _ _ _ _ us hl => match us, hl with | [_], _ => rfl) (j_columns_of T)
/-! from_columns -/
abbrev N_from_columns : List Str := ["columns", "at", "column"]
theorem sc_from_columns : FnScope N_from_columns ["columns"] (defScope s_from_columns) := ⟨rfl, rfl, rfl, by decide +kernel, rfl, by decide +kernel, by decide +kernel⟩
theorem j_from_columns {p : Pc} (T : Top p fa fn exF) : JSs p N_from_columns 0 (ds s_from_columns) (defBody s_from_columns) sem_from_columns :=
  (js_one (js_ret (je_tuple (fr_tuple T) (ja_cons (je_lc finD_ok [("at", 1)] (ji_range1 (fr_range T) (ja_cons (je_len (fr_len T) (ja_cons (je_ix (je_var 0) je_int) ja_nil)) ja_nil)) (jg_name 1) jts_nil (je_join je_str (je_lc finD_ok [("column", 2)] (ji_seq (je_var 0)) (jg_name 2) jts_nil (je_ix (je_var 2) (je_var 1))))) ja_nil))))
theorem fn_from_columns {p : Pc} (T : Top p fa fn exF) : Fn p "from_columns" 1 1 g_from_columns := fn_def (df_from_columns T) sc_from_columns (fun _ _ _ _ _ _ _ us hl => match us, hl with | [_], _ => rfl) (j_from_columns T)
/-! done_to -/
abbrev N_done_to : List Str := ["lines", "deed", "word", "at", "line"]
theorem sc_done_to : FnScope N_done_to ["lines", "deed"] (defScope s_done_to) := ⟨rfl, rfl, rfl, by decide +kernel, rfl, by decide +kernel, by decide +kernel⟩
theorem j_done_to {p : Pc} (T : Top p fa fn exF) : JSs p N_done_to 1 (ds s_done_to) (defBody s_done_to) sem_done_to :=
  (js_cons (js_set 2 (je_ix (je_var 1) je_int)) (js_cons (js_if (jt_eq (je_var 2) je_str) (js_one (js_ret (je_rev (je_var 0)))) js_nil) (js_cons (js_if (jt_eq (je_var 2) je_str) (js_cons (js_set 3 (je_mod (je_ix (je_var 1) je_int) (je_len (fr_len T) (ja_cons (je_var 0) ja_nil)))) (js_one (js_ret (je_add (je_sl (je_var 0) (jo_e (je_sub (je_len (fr_len T) (ja_cons (je_var 0) ja_nil)) (je_var 3))) jo_no) (je_sl (je_var 0) jo_no (jo_e (je_sub (je_len (fr_len T) (ja_cons (je_var 0) ja_nil)) (je_var 3)))))))) js_nil) (js_cons (js_if (jt_eq (je_var 2) je_str) (js_one (js_ret (je_lc finD_ok [("at", 3), ("line", 4)] (ji_enum (fr_enumerate T) (ja_cons (je_var 0) ja_nil)) (jg_tup (jgs_cons 3 (jgs_cons 4 jgs_nil))) jts_nil (je_call (fn_rolled T) (ja_cons (je_var 4) (ja_cons (je_mul (je_ix (je_var 1) je_int) (je_var 3)) ja_nil)))))) js_nil) (js_one (js_ret (je_lc finD_ok [("at", 3), ("line", 4)] (ji_enum (fr_enumerate T) (ja_cons (je_var 0) ja_nil)) (jg_tup (jgs_cons 3 (jgs_cons 4 jgs_nil))) jts_nil (je_ite (jt_eq (je_mod (je_var 3) (je_ix (je_var 1) je_int)) (je_ix (je_var 1) je_int)) (je_rev (je_var 4)) (je_var 4)))))))))
theorem fn_done_to {p : Pc} (T : Top p fa fn exF) : Fn p "done_to" 2 2 g_done_to := fn_def (df_done_to T) sc_done_to (fun _ _ _ _ _ _ _ us hl => match us, hl with | [_, _], _ => rfl) (j_done_to T)
/-! behind -/
abbrev N_behind : List Str := ["board", "deed"]
theorem sc_behind : FnScope N_behind ["board", "deed"] (defScope s_behind) := ⟨rfl, rfl, rfl, by decide +kernel, rfl, by decide +kernel, by decide +kernel⟩
theorem j_behind {p : Pc} (T : Top p fa fn exF) : JSs p N_behind 2 (ds s_behind) (defBody s_behind) sem_behind :=
  (js_cons (js_if (jt_eq (je_ix (je_var 1) je_int) je_str) (js_one (js_ret (je_tuple (fr_tuple T) (ja_cons (je_call (fn_done_to T) (ja_cons (je_list (fr_list T) (ja_cons (je_var 0) ja_nil)) (ja_cons (je_var 1) ja_nil))) ja_nil)))) js_nil) (js_one (js_ret (je_call (fn_from_columns T) (ja_cons (je_call (fn_done_to T) (ja_cons (je_call (fn_columns_of T) (ja_cons (je_var 0) ja_nil)) (ja_cons (je_var 1) ja_nil))) ja_nil)))))
theorem fn_behind {p : Pc} (T : Top p fa fn exF) : Fn p "behind" 3 2 g_behind := fn_def (df_behind T) sc_behind (fun _ _ _ _ _ _ _ us hl => match us, hl with | [_, _], _ => rfl) (j_behind T)
/-! strips -/
abbrev N_strips : List Str := ["woods", "number", "wood"]
theorem sc_strips : FnScope N_strips ["woods", "number"] (defScope s_strips) := ⟨rfl, rfl, rfl, by decide +kernel, rfl, by decide +kernel, by decide +kernel⟩
theorem j_strips {p : Pc} (T : Top p fa fn exF) : JSs p N_strips 0 (ds s_strips) (defBody s_strips) sem_strips :=
  (js_one (js_ret (je_tuple (fr_tuple T) (ja_cons (je_lc finD_ok [("wood", 2)] (ji_seq (je_var 0)) (jg_name 2) jts_nil (je_mul (je_var 2) (je_var 1))) ja_nil))))
theorem fn_strips {p : Pc} (T : Top p fa fn exF) : Fn p "strips" 1 2 g_strips := fn_def (df_strips T) sc_strips (fun _ _ _ _ _ _ _ us hl => match us, hl with | [_, _], _ => rfl) (j_strips T)
/-! board_of -/
abbrev N_board_of : List Str := ["plan", "number", "found", "deed"]
theorem sc_board_of : FnScope N_board_of ["plan", "number"] (defScope s_board_of) := ⟨rfl, rfl, rfl, by decide +kernel, rfl, by decide +kernel, by decide +kernel⟩
theorem j_board_of {p : Pc} (T : Top p fa fn exF) : JSs p N_board_of 3 (ds s_board_of) (defBody s_board_of) sem_board_of :=
  (js_cons (js_set 2 (je_call (fn_strips T) (ja_cons (je_ix (je_var 0) je_int) (ja_cons (je_var 1) ja_nil)))) (js_cons (js_for (ji_seq (je_ix (je_var 0) je_int)) (jg_name 3) (js_one (js_set 2 (je_call (fn_behind T) (ja_cons (je_var 2) (ja_cons (je_var 3) ja_nil)))))) (js_one (js_ret (je_var 2)))))
theorem fn_board_of {p : Pc} (T : Top p fa fn exF) : Fn p "board_of" 4 2 g_board_of := fn_def (df_board_of T) sc_board_of (fun _ _ _ _ _ _ _ us hl => match us, hl with | [_, _], _ => rfl) (j_board_of T)
/-! common -/
abbrev N_common : List Str := ["one", "other", "left", "right"]
theorem sc_common : FnScope N_common ["one", "other"] (defScope s_common) := ⟨rfl, rfl, rfl, by decide +kernel, rfl, by decide +kernel, by decide +kernel⟩
theorem j_common {p : Pc} (T : Top p fa fn exF) : JSs p N_common 0 (ds s_common) (defBody s_common) sem_common :=
  (js_cons (js_par (ja_cons (je_var 0) (ja_cons (je_var 1) ja_nil))) (js_cons (js_while (jt_ne (je_var 3) je_int) (js_one (js_par (ja_cons (je_var 3) (ja_cons (je_mod (je_var 2) (je_var 3)) ja_nil))))) (js_one (js_ret (je_fdiv (je_mul (je_var 0) (je_var 1)) (je_var 2))))))
theorem fn_common {p : Pc} (T : Top p fa fn exF) : Fn p "common" 1 2 g_common := fn_def (df_common T) sc_common (fun _ _ _ _ _ _ _ us hl => match us, hl with | [_, _], _ => rfl) (j_common T)
/-! period_of -/
abbrev N_period_of : List Str := ["many", "deeds", "found", "deed"]
theorem sc_period_of : FnScope N_period_of ["many", "deeds"] (defScope s_period_of) := ⟨rfl, rfl, rfl, by decide +kernel, rfl, by decide +kernel, by decide +kernel⟩
theorem j_period_of {p : Pc} (T : Top p fa fn exF) : JSs p N_period_of 1 (ds s_period_of) (defBody s_period_of) sem_period_of :=
  (js_cons (js_set 2 je_int) (js_cons (js_for (ji_seq (je_var 1)) (jg_name 3) (js_cons (js_if (jt_w (jw_and (jt_eq (je_ix (je_var 3) je_int) je_str) (jw_and1 (jt_eq (je_ix (je_var 3) je_int) je_str)))) (js_one (js_set 2 (je_call (fn_common T) (ja_cons (je_var 2) (ja_cons (je_ix (je_var 3) je_int) ja_nil))))) js_nil) (js_one (js_if (jt_w (jw_and (jt_eq (je_ix (je_var 3) je_int) je_str) (jw_and1 (jt_eq (je_ix (je_var 3) je_int) je_str)))) (js_one (js_set 2 (je_call (fn_common T) (ja_cons (je_var 2) (ja_cons (je_var 0) ja_nil))))) js_nil)))) (js_one (js_ret (je_var 2)))))
theorem fn_period_of {p : Pc} (T : Top p fa fn exF) : Fn p "period_of" 2 2 g_period_of := fn_def (df_period_of T) sc_period_of (fun _ _ _ _ _ _ _ us hl => match us, hl with | [_, _], _ => rfl) (j_period_of T)
/-! reach_of -/
abbrev N_reach_of : List Str := ["many", "deeds", "found", "deed"]
theorem sc_reach_of : FnScope N_reach_of ["many", "deeds"] (defScope s_reach_of) := ⟨rfl, rfl, rfl, by decide +kernel, rfl, by decide +kernel, by decide +kernel⟩
theorem j_reach_of {p : Pc} (T : Top p fa fn exF) : JSs p N_reach_of 0 (ds s_reach_of) (defBody s_reach_of) sem_reach_of :=
  (js_cons (js_set 2 je_int) (js_cons (js_for (ji_seq (je_var 1)) (jg_name 3) (js_cons (js_if (jt_eq (je_sl (je_var 3) jo_no (jo_e je_int)) (je_tup (ja_cons je_str (ja_cons je_str ja_nil)))) (js_one (js_set 2 (je_add (je_var 2) (je_abs (fr_abs T) (ja_cons (je_ix (je_var 3) je_int) ja_nil))))) js_nil) (js_one (js_if (jt_eq (je_sl (je_var 3) jo_no (jo_e je_int)) (je_tup (ja_cons je_str (ja_cons je_str ja_nil)))) (js_one (js_set 2 (je_add (je_var 2) (je_mul (je_abs (fr_abs T) (ja_cons (je_ix (je_var 3) je_int) ja_nil)) (je_sub (je_var 0) je_int))))) js_nil)))) (js_one (js_ret (je_var 2)))))
theorem fn_reach_of {p : Pc} (T : Top p fa fn exF) : Fn p "reach_of" 1 2 g_reach_of := fn_def (df_reach_of T) sc_reach_of (fun _ _ _ _ _ _ _ us hl => match us, hl with | [_, _], _ => rfl) (j_reach_of T)
/-! top_of -/
abbrev N_top_of : List Str := ["one", "other", "period"]
theorem sc_top_of : FnScope N_top_of ["one", "other"] (defScope s_top_of) := ⟨rfl, rfl, rfl, by decide +kernel, rfl, by decide +kernel, by decide +kernel⟩
theorem j_top_of {p : Pc} (T : Top p fa fn exF) : JSs p N_top_of 2 (ds s_top_of) (defBody s_top_of) sem_top_of :=
  (js_cons (js_set 2 (je_call (fn_common T) (ja_cons (je_call (fn_period_of T) (ja_cons (je_len (fr_len T) (ja_cons (je_ix (je_var 0) je_int) ja_nil)) (ja_cons (je_ix (je_var 0) je_int) ja_nil))) (ja_cons (je_call (fn_period_of T) (ja_cons (je_len (fr_len T) (ja_cons (je_ix (je_var 1) je_int) ja_nil)) (ja_cons (je_ix (je_var 1) je_int) ja_nil))) ja_nil)))) (js_one (js_ret (je_add (je_mul je_int (je_max (fr_max T) (ja_cons (je_call (fn_reach_of T) (ja_cons (je_len (fr_len T) (ja_cons (je_ix (je_var 0) je_int) ja_nil)) (ja_cons (je_ix (je_var 0) je_int) ja_nil))) (ja_cons (je_call (fn_reach_of T) (ja_cons (je_len (fr_len T) (ja_cons (je_ix (je_var 1) je_int) ja_nil)) (ja_cons (je_ix (je_var 1) je_int) ja_nil))) ja_nil)))) (je_mul je_int (je_var 2))))))
theorem fn_top_of {p : Pc} (T : Top p fa fn exF) : Fn p "top_of" 3 2 g_top_of := fn_def (df_top_of T) sc_top_of (fun _ _ _ _ _ _ _ us hl => match us, hl with | [_, _], _ => rfl) (j_top_of T)
/-! parted -/
abbrev N_parted : List Str := ["one", "other", "number", "row", "mine", "yours", "column"]
theorem sc_parted : FnScope N_parted ["one", "other"] (defScope s_parted) := ⟨rfl, rfl, rfl, by decide +kernel, rfl, by decide +kernel, by decide +kernel⟩
theorem j_parted {p : Pc} (T : Top p fa fn exF) : JSs p N_parted 4 (ds s_parted) (defBody s_parted) sem_parted :=
  (js_cons (js_for (ji_range2 (fr_range T) (ja_cons je_int (ja_cons (je_add (je_call (fn_top_of T) (ja_cons (je_var 0) (ja_cons (je_var 1) ja_nil))) je_int) ja_nil))) (jg_name 2) (js_cons (js_par (ja_cons (je_call (fn_board_of T) (ja_cons (je_var 0) (ja_cons (je_var 2) ja_nil))) (ja_cons (je_call (fn_board_of T) (ja_cons (je_var 1) (ja_cons (je_var 2) ja_nil))) ja_nil))) (js_one (js_for (ji_range1 (fr_range T) (ja_cons (je_len (fr_len T) (ja_cons (je_var 4) ja_nil)) ja_nil)) (jg_name 3) (js_one (js_for (ji_range1 (fr_range T) (ja_cons (je_var 2) ja_nil)) (jg_name 6) (js_one (js_if (jt_ne (je_ix (je_ix (je_var 4) (je_var 3)) (je_var 6)) (je_ix (je_ix (je_var 5) (je_var 3)) (je_var 6))) (js_one (js_ret (je_tup (ja_cons (je_var 2) (ja_cons (je_var 3) (ja_cons (je_var 6) ja_nil)))))) js_nil)))))))) (js_one (js_ret je_non)))
theorem fn_parted {p : Pc} (T : Top p fa fn exF) : Fn p "parted" 5 2 g_parted := fn_def (df_parted T) sc_parted (fun _ _ _ _ _ _ _ us hl => match us, hl with | [_, _], _ => rfl) (j_parted T)
/-! turned -/
abbrev N_turned : List Str := ["board", "word", "row"]
theorem sc_turned : FnScope N_turned ["board", "word"] (defScope s_turned) := ⟨rfl, rfl, rfl, by decide +kernel, rfl, by decide +kernel, by decide +kernel⟩
theorem j_turned {p : Pc} (T : Top p fa fn exF) : JSs p N_turned 0 (ds s_turned) (defBody s_turned) sem_turned :=
  (js_cons (js_if (jt_in (je_var 1) (je_tup (ja_cons je_str (ja_cons je_str ja_nil)))) (js_one (js_set 0 (je_rev (je_var 0)))) js_nil) (js_one (js_ret (je_ite (jt_in (je_var 1) (je_tup (ja_cons je_str (ja_cons je_str ja_nil)))) (je_tuple (fr_tuple T) (ja_cons (je_lc finD_ok [("row", 2)] (ji_seq (je_var 0)) (jg_name 2) jts_nil (je_rev (je_var 2))) ja_nil)) (je_var 0)))))
theorem fn_turned {p : Pc} (T : Top p fa fn exF) : Fn p "turned" 1 2 g_turned := fn_def (df_turned T) sc_turned (fun _ _ _ _ _ _ _ us hl => match us, hl with | [_, _], _ => rfl) (j_turned T)
/-! need_both -/
abbrev N_need_both : List Str := ["one", "other"]
theorem sc_need_both : FnScope N_need_both ["one", "other"] (defScope s_need_both) := ⟨rfl, rfl, rfl, by decide +kernel, rfl, by decide +kernel, by decide +kernel⟩
theorem j_need_both {p : Pc} (T : Top p fa fn exF) : JSs p N_need_both 4 (ds s_need_both) (defBody s_need_both) sem_need_both :=
  (js_cons (js_expr (je_call (fn_need_plan T) (ja_cons (je_var 0) ja_nil))) (js_cons (js_expr (je_call (fn_need_plan T) (ja_cons (je_var 1) ja_nil))) (js_one (js_if (jt_ne (je_len (fr_len T) (ja_cons (je_ix (je_var 0) je_int) ja_nil)) (je_len (fr_len T) (ja_cons (je_ix (je_var 1) je_int) ja_nil))) (js_one (js_raise (ex_Unlike T))) js_nil))))
theorem fn_need_both {p : Pc} (T : Top p fa fn exF) : Fn p "need_both" 5 2 g_need_both := fn_def (df_need_both T) sc_need_both (fun _ _ _ _ _ _ _ us hl => match us, hl with | [_, _], _ => rfl) (j_need_both T)
/-! alike -/
abbrev N_alike : List Str := ["one", "other"]
theorem sc_alike : FnScope N_alike ["one", "other"] (defScope s_alike) := ⟨rfl, rfl, rfl, by decide +kernel, rfl, by decide +kernel, by decide +kernel⟩
theorem j_alike {p : Pc} (T : Top p fa fn exF) : JSs p N_alike 5 (ds s_alike) (defBody s_alike) sem_alike :=
  (js_cons (js_expr (je_call (fn_need_both T) (ja_cons (je_var 0) (ja_cons (je_var 1) ja_nil)))) (js_one (js_ret (je_is (je_call (fn_parted T) (ja_cons (je_var 0) (ja_cons (je_var 1) ja_nil))) je_non))))
theorem fn_alike {p : Pc} (T : Top p fa fn exF) : Fn p "alike" 6 2 g_alike := fn_def (df_alike T) sc_alike (fun _ _ _ _ _ _ _ us hl => match us, hl with | [_, _], _ => rfl) (j_alike T)
/-! parting -/
abbrev N_parting : List Str := ["one", "other"]
theorem sc_parting : FnScope N_parting ["one", "other"] (defScope s_parting) := ⟨rfl, rfl, rfl, by decide +kernel, rfl, by decide +kernel, by decide +kernel⟩
theorem j_parting {p : Pc} (T : Top p fa fn exF) : JSs p N_parting 5 (ds s_parting) (defBody s_parting) sem_parting :=
  (js_cons (js_expr (je_call (fn_need_both T) (ja_cons (je_var 0) (ja_cons (je_var 1) ja_nil)))) (js_one (js_ret (je_call (fn_parted T) (ja_cons (je_var 0) (ja_cons (je_var 1) ja_nil))))))
theorem fn_parting {p : Pc} (T : Top p fa fn exF) : Fn p "parting" 6 2 g_parting := fn_def (df_parting T) sc_parting (fun _ _ _ _ _ _ _ us hl => match us, hl with | [_, _], _ => rfl) (j_parting T)
/-! turns -/
abbrev N_turns : List Str := ["one", "other", "found", "word", "numbers", "number"]
theorem sc_turns : FnScope N_turns ["one", "other"] (defScope s_turns) := ⟨rfl, rfl, rfl, by decide +kernel, rfl, by decide +kernel, by decide +kernel⟩
theorem j_turns {p : Pc} (T : Top p fa fn exF) : JSs p N_turns 5 (ds s_turns) (defBody s_turns) sem_turns :=
  (js_cons (js_expr (je_call (fn_need_both T) (ja_cons (je_var 0) (ja_cons (je_var 1) ja_nil)))) (js_cons (js_set 2 (je_lstO ja_nil)) (js_cons (js_for (ji_seqT (gt_TURNS T)) (jg_name 3) (js_cons (js_set 4 (je_listR (fr_list T) (fr_range T) je_int (je_add (je_call (fn_top_of T) (ja_cons (je_var 0) (ja_cons (je_var 1) ja_nil))) je_int))) (js_one (js_if (jt_val (je_all (fr_all T) (ja_cons (je_lc finD_ok [("number", 5)] (ji_seq (je_var 4)) (jg_name 5) jts_nil (je_eq (je_call (fn_turned T) (ja_cons (je_call (fn_board_of T) (ja_cons (je_var 0) (ja_cons (je_var 5) ja_nil))) (ja_cons (je_var 3) ja_nil))) (je_call (fn_board_of T) (ja_cons (je_var 1) (ja_cons (je_var 5) ja_nil))))) ja_nil))) (js_one (js_expr (je_append (je_var 2) (je_var 3)))) js_nil)))) (js_one (js_ret (je_var 2))))))
theorem fn_turns {p : Pc} (T : Top p fa fn exF) : Fn p "turns" 6 2 g_turns := fn_def (df_turns T) sc_turns (fun _ _ _ _ _ _ _ us hl => match us, hl with | [_, _], _ => rfl) (j_turns T)
/-! _law_stack -/
abbrev N__law_stack : List Str := ["cell", "salt", "great"]
theorem sc__law_stack : FnScope N__law_stack ["cell", "salt"] (defScope s__law_stack) := ⟨rfl, rfl, rfl, by decide +kernel, rfl, by decide +kernel, by decide +kernel⟩
theorem j__law_stack {p : Pc} (T : Top p fa fn exF) : JSs p N__law_stack 0 (ds s__law_stack) (defBody s__law_stack) sem__law_stack :=
  (js_cons (js_set 2 (je_ite (jt_ge (je_var 0) (je_pow je_int je_int)) (je_add (je_fdiv (je_var 0) je_int) (je_mul je_int (je_var 1))) je_int)) (js_one (js_ret (je_lstO (ja_cons (je_var 2) (ja_cons (je_add (je_mod (je_int1 (fr_int T) (ja_cons (je_add (je_mul (je_var 0) je_int) (je_mul je_int (je_var 1))) ja_nil)) je_int) je_int) ja_nil))))))
theorem fn__law_stack {p : Pc} (T : Top p fa fn exF) : Fn p "_law_stack" 1 2 g__law_stack := fn_def (df__law_stack T) sc__law_stack (fun _ _ _ _ _ _ _ us hl => match us, hl with | [_, _], _ => rfl) (j__law_stack T)
/-! _law_saw -/
abbrev N__law_saw : List Str := ["stack", "many", "deep", "found"]
theorem sc__law_saw : FnScope N__law_saw ["stack", "many"] (defScope s__law_saw) := ⟨rfl, rfl, rfl, by decide +kernel, rfl, by decide +kernel, by decide +kernel⟩
theorem j__law_saw {p : Pc} (T : Top p fa fn exF) : JSs p N__law_saw 0 (ds s__law_saw) (defBody s__law_saw) sem__law_saw :=
  (js_cons (js_if (jt_gt (je_ix (je_var 0) je_int) je_int) (js_cons (js_set 3 (je_mod (je_int1 (fr_int T) (ja_cons (je_ix (je_var 0) je_int) ja_nil)) (je_var 1))) (js_cons (js_sub (je_fdiv (je_ix (je_var 0) je_int) (je_var 1)) (je_var 0) je_int) (js_one (js_ret (je_var 3))))) js_nil) (js_cons (js_sub (je_mod (je_int1 (fr_int T) (ja_cons (je_add (je_mul (je_ix (je_var 0) je_int) je_int) je_int) ja_nil)) je_int) (je_var 0) je_int) (js_cons (js_set 2 (je_mod (je_int1 (fr_int T) (ja_cons (je_mul (je_ix (je_var 0) je_int) (je_add (je_ix (je_var 0) je_int) je_int)) ja_nil)) je_int)) (js_one (js_ret (je_mod (je_int1 (fr_int T) (ja_cons (je_fdiv (je_var 2) je_int) ja_nil)) (je_var 1)))))))
theorem fn__law_saw {p : Pc} (T : Top p fa fn exF) : Fn p "_law_saw" 1 2 g__law_saw := fn_def (df__law_saw T) sc__law_saw (fun _ _ _ _ _ _ _ us hl => match us, hl with | [_, _], _ => rfl) (j__law_saw T)
/-! _law_pick -/
abbrev N__law_pick : List Str := ["stack", "things"]
theorem sc__law_pick : FnScope N__law_pick ["stack", "things"] (defScope s__law_pick) := ⟨rfl, rfl, rfl, by decide +kernel, rfl, by decide +kernel, by decide +kernel⟩
theorem j__law_pick {p : Pc} (T : Top p fa fn exF) : JSs p N__law_pick 1 (ds s__law_pick) (defBody s__law_pick) sem__law_pick :=
  (js_one (js_ret (je_ix (je_var 1) (je_call (fn__law_saw T) (ja_cons (je_var 0) (ja_cons (je_len (fr_len T) (ja_cons (je_var 1) ja_nil)) ja_nil))))))
theorem fn__law_pick {p : Pc} (T : Top p fa fn exF) : Fn p "_law_pick" 2 2 g__law_pick := fn_def (df__law_pick T) sc__law_pick (fun _ _ _ _ _ _ _ us hl => match us, hl with | [_, _], _ => rfl) (j__law_pick T)
/-! _law_deed -/
abbrev N__law_deed : List Str := ["stack", "side", "way", "by"]
theorem sc__law_deed : FnScope N__law_deed ["stack"] (defScope s__law_deed) := ⟨rfl, rfl, rfl, by decide +kernel, rfl, by decide +kernel, by decide +kernel⟩
theorem j__law_deed {p : Pc} (T : Top p fa fn exF) : JSs p N__law_deed 2 (ds s__law_deed) (defBody s__law_deed) sem__law_deed :=
  (js_cons (js_par (ja_cons (je_call (fn__law_pick T) (ja_cons (je_var 0) (ja_cons (je_lst (ja_cons je_str (ja_cons je_str (ja_cons je_str ja_nil)))) ja_nil))) (ja_cons (je_call (fn__law_saw T) (ja_cons (je_var 0) (ja_cons je_int ja_nil))) ja_nil))) (js_cons (js_if (jt_lt (je_var 2) je_int) (js_cons (js_set 3 (je_add je_int (je_call (fn__law_saw T) (ja_cons (je_var 0) (ja_cons je_int ja_nil))))) (js_one (js_ret (je_tup (ja_cons (je_var 1) (ja_cons je_str (ja_cons (je_var 3) (ja_cons (je_call (fn__law_saw T) (ja_cons (je_var 0) (ja_cons (je_var 3) ja_nil))) ja_nil)))))))) js_nil) (js_cons (js_if (jt_eq (je_var 2) je_int) (js_one (js_ret (je_tup (ja_cons (je_var 1) (ja_cons je_str ja_nil))))) js_nil) (js_one (js_ret (je_tup (ja_cons (je_var 1) (ja_cons (je_ite (jt_eq (je_var 2) je_int) je_str je_str) (ja_cons (je_call (fn__law_pick T) (ja_cons (je_var 0) (ja_cons (je_lst (ja_cons (je_neg je_int) (ja_cons (je_neg je_int) (ja_cons je_int (ja_cons je_int ja_nil))))) ja_nil))) ja_nil)))))))))
theorem fn__law_deed {p : Pc} (T : Top p fa fn exF) : Fn p "_law_deed" 3 1 g__law_deed := fn_def (df__law_deed T) sc__law_deed (fun _ _ _ _ _ _ _ us hl => match us, hl with | [_], _ => rfl) (j__law_deed T)
/-! _law_woods -/
abbrev N__law_woods : List Str := ["stack", "most", "many", "turn"]
theorem sc__law_woods : FnScope N__law_woods ["stack", "most"] (defScope s__law_woods) := ⟨rfl, rfl, rfl, by decide +kernel, rfl, by decide +kernel, by decide +kernel⟩
theorem j__law_woods {p : Pc} (T : Top p fa fn exF) : JSs p N__law_woods 2 (ds s__law_woods) (defBody s__law_woods) sem__law_woods :=
  (js_cons (js_set 2 (je_add je_int (je_call (fn__law_saw T) (ja_cons (je_var 0) (ja_cons (je_sub (je_var 1) je_int) ja_nil))))) (js_cons (js_if (jt_gt (je_call (fn__law_saw T) (ja_cons (je_var 0) (ja_cons je_int ja_nil))) je_int) (js_one (js_ret (je_sl (je_tup (ja_cons je_str (ja_cons je_str (ja_cons je_str (ja_cons je_str ja_nil))))) jo_no (jo_e (je_var 2))))) js_nil) (js_one (js_ret (je_tuple (fr_tuple T) (ja_cons (je_lc finD_ok [("turn", 3)] (ji_range1 (fr_range T) (ja_cons (je_var 2) ja_nil)) (jg_name 3) jts_nil (je_call (fn__law_pick T) (ja_cons (je_var 0) (ja_cons (je_lst (ja_cons je_str (ja_cons je_str (ja_cons je_str (ja_cons je_str ja_nil))))) ja_nil)))) ja_nil))))))
theorem fn__law_woods {p : Pc} (T : Top p fa fn exF) : Fn p "_law_woods" 3 2 g__law_woods := fn_def (df__law_woods T) sc__law_woods (fun _ _ _ _ _ _ _ us hl => match us, hl with | [_, _], _ => rfl) (j__law_woods T)
/-! _law_plan -/
abbrev N__law_plan : List Str := ["stack", "most", "deeds", "woods", "turn"]
theorem sc__law_plan : FnScope N__law_plan ["stack", "most", "deeds"] (defScope s__law_plan) := ⟨rfl, rfl, rfl, by decide +kernel, rfl, by decide +kernel, by decide +kernel⟩
theorem j__law_plan {p : Pc} (T : Top p fa fn exF) : JSs p N__law_plan 3 (ds s__law_plan) (defBody s__law_plan) sem__law_plan :=
  (js_cons (js_set 3 (je_call (fn__law_woods T) (ja_cons (je_var 0) (ja_cons (je_var 1) ja_nil)))) (js_one (js_ret (je_tup (ja_cons (je_var 3) (ja_cons (je_tuple (fr_tuple T) (ja_cons (je_lc finD_ok [("turn", 4)] (ji_range1 (fr_range T) (ja_cons (je_call (fn__law_saw T) (ja_cons (je_var 0) (ja_cons (je_add (je_var 2) je_int) ja_nil))) ja_nil)) (jg_name 4) jts_nil (je_call (fn__law_deed T) (ja_cons (je_var 0) ja_nil))) ja_nil)) ja_nil))))))
theorem fn__law_plan {p : Pc} (T : Top p fa fn exF) : Fn p "_law_plan" 4 3 g__law_plan := fn_def (df__law_plan T) sc__law_plan (fun _ _ _ _ _ _ _ us hl => match us, hl with | [_, _, _], _ => rfl) (j__law_plan T)
/-! _law_strips -/
abbrev N__law_strips : List Str := ["woods", "number", "found", "row", "column"]
theorem sc__law_strips : FnScope N__law_strips ["woods", "number"] (defScope s__law_strips) := ⟨rfl, rfl, rfl, by decide +kernel, rfl, by decide +kernel, by decide +kernel⟩
theorem j__law_strips {p : Pc} (T : Top p fa fn exF) : JSs p N__law_strips 0 (ds s__law_strips) (defBody s__law_strips) sem__law_strips :=
  (js_cons (js_set 2 je_newT) (js_cons (js_for (ji_range1 (fr_range T) (ja_cons (je_len (fr_len T) (ja_cons (je_var 0) ja_nil)) ja_nil)) (jg_name 3) (js_one (js_for (ji_range1 (fr_range T) (ja_cons (je_var 1) ja_nil)) (jg_name 4) (js_one (js_sub (je_ix (je_var 0) (je_var 3)) (je_var 2) (je_tup (ja_cons (je_var 3) (ja_cons (je_var 4) ja_nil)))))))) (js_one (js_ret (je_var 2)))))
theorem fn__law_strips {p : Pc} (T : Top p fa fn exF) : Fn p "_law_strips" 1 2 g__law_strips := fn_def (df__law_strips T) sc__law_strips (fun _ _ _ _ _ _ _ us hl => match us, hl with | [_, _], _ => rfl) (j__law_strips T)
/-! _law_goal -/
abbrev N__law_goal : List Str := ["many", "number", "deed", "row", "column", "side", "word", "line", "cell", "lines", "cells"]
theorem sc__law_goal : FnScope N__law_goal ["many", "number", "deed", "row", "column"] (defScope s__law_goal) := ⟨rfl, rfl, rfl, by decide +kernel, rfl, by decide +kernel, by decide +kernel⟩
theorem j__law_goal {p : Pc} (T : Top p fa fn exF) : JSs p N__law_goal 0 (ds s__law_goal) (defBody s__law_goal) sem__law_goal :=
  (js_cons (js_asg (je_sl (je_var 2) jo_no (jo_e je_int)) (jg_tup (jgs_cons 5 (jgs_cons 6 jgs_nil)))) (js_cons (js_asg (je_ite (jt_eq (je_var 5) je_str) (je_tup (ja_cons (je_var 3) (ja_cons (je_var 4) (ja_cons (je_var 0) (ja_cons (je_var 1) ja_nil))))) (je_tup (ja_cons (je_var 4) (ja_cons (je_var 3) (ja_cons (je_var 1) (ja_cons (je_var 0) ja_nil)))))) (jg_tup (jgs_cons 7 (jgs_cons 8 (jgs_cons 9 (jgs_cons 10 jgs_nil)))))) (js_cons (js_if (jt_w (jw_and (jt_eq (je_var 6) je_str) (jw_and1 (jt_eq (je_mod (je_var 7) (je_ix (je_var 2) je_int)) (je_ix (je_var 2) je_int))))) (js_one (js_set 8 (je_sub (je_sub (je_var 10) je_int) (je_var 8)))) (js_one (js_if (jt_eq (je_var 6) je_str) (js_one (js_set 8 (je_mod (je_int1 (fr_int T) (ja_cons (je_add (je_var 8) (je_mul (je_ix (je_var 2) je_int) (je_var 7))) ja_nil)) (je_var 10)))) (js_one (js_if (jt_eq (je_var 6) je_str) (js_one (js_set 7 (je_sub (je_sub (je_var 9) je_int) (je_var 7)))) (js_one (js_if (jt_eq (je_var 6) je_str) (js_one (js_set 7 (je_mod (je_int1 (fr_int T) (ja_cons (je_add (je_var 7) (je_ix (je_var 2) je_int)) ja_nil)) (je_var 9)))) js_nil))))))) (js_one (js_ret (je_ite (jt_eq (je_var 5) je_str) (je_tup (ja_cons (je_var 7) (ja_cons (je_var 8) ja_nil))) (je_tup (ja_cons (je_var 8) (ja_cons (je_var 7) ja_nil)))))))))
theorem fn__law_goal {p : Pc} (T : Top p fa fn exF) : Fn p "_law_goal" 1 5 g__law_goal := fn_def (df__law_goal T) sc__law_goal (fun _ _ _ _ _ _ _ us hl => match us, hl with | [_, _, _, _, _], _ => rfl) (j__law_goal T)
/-! _law_rows -/
abbrev N__law_rows : List Str := ["many", "number", "told", "row", "column"]
theorem sc__law_rows : FnScope N__law_rows ["many", "number", "told"] (defScope s__law_rows) := ⟨rfl, rfl, rfl, by decide +kernel, rfl, by decide +kernel, by decide +kernel⟩
theorem j__law_rows {p : Pc} (T : Top p fa fn exF) : JSs p N__law_rows 0 (ds s__law_rows) (defBody s__law_rows) sem__law_rows :=
  (js_one (js_ret (je_tuple (fr_tuple T) (ja_cons (je_lc finD_ok [("row", 3)] (ji_range1 (fr_range T) (ja_cons (je_var 0) ja_nil)) (jg_name 3) jts_nil (je_join je_str (je_lc finD_ok [("column", 4)] (ji_range1 (fr_range T) (ja_cons (je_var 1) ja_nil)) (jg_name 4) jts_nil (je_dget (je_var 2) (je_tup (ja_cons (je_var 3) (ja_cons (je_var 4) ja_nil))))))) ja_nil))))
theorem fn__law_rows {p : Pc} (T : Top p fa fn exF) : Fn p "_law_rows" 1 3 g__law_rows := fn_def (df__law_rows T) sc__law_rows (fun _ _ _ _ _ _ _ us hl => match us, hl with | [_, _, _], _ => rfl) (j__law_rows T)
/-! _law_done -/
abbrev N__law_done : List Str := ["many", "number", "told", "deed", "found", "row", "column"]
theorem sc__law_done : FnScope N__law_done ["many", "number", "told", "deed"] (defScope s__law_done) := ⟨rfl, rfl, rfl, by decide +kernel, rfl, by decide +kernel, by decide +kernel⟩
theorem j__law_done {p : Pc} (T : Top p fa fn exF) : JSs p N__law_done 1 (ds s__law_done) (defBody s__law_done) sem__law_done :=
  (js_cons (js_set 4 je_newT) (js_cons (js_lock 2 (js_for (ji_seq (je_var 2)) (jg_tup (jgs_cons 5 (jgs_cons 6 jgs_nil))) (js_one (js_sub (je_dget (je_var 2) (je_tup (ja_cons (je_var 5) (ja_cons (je_var 6) ja_nil)))) (je_var 4) (je_call (fn__law_goal T) (ja_cons (je_var 0) (ja_cons (je_var 1) (ja_cons (je_var 3) (ja_cons (je_var 5) (ja_cons (je_var 6) ja_nil)))))))))) (js_one (js_ret (je_var 4)))))
theorem fn__law_done {p : Pc} (T : Top p fa fn exF) : Fn p "_law_done" 2 4 g__law_done := fn_def (df__law_done T) sc__law_done (fun _ _ _ _ _ _ _ us hl => match us, hl with | [_, _, _, _], _ => rfl) (j__law_done T)
/-! _law_board -/
abbrev N__law_board : List Str := ["plan", "number", "deed", "many", "told"]
theorem sc__law_board : FnScope N__law_board ["plan", "number"] (defScope s__law_board) := ⟨rfl, rfl, rfl, by decide +kernel, rfl, by decide +kernel, by decide +kernel⟩
theorem j__law_board {p : Pc} (T : Top p fa fn exF) : JSs p N__law_board 2 (ds s__law_board) (defBody s__law_board) sem__law_board :=
  (js_cons (js_par (ja_cons (je_len (fr_len T) (ja_cons (je_ix (je_var 0) je_int) ja_nil)) (ja_cons (je_call (fn__law_strips T) (ja_cons (je_ix (je_var 0) je_int) (ja_cons (je_var 1) ja_nil))) ja_nil))) (js_cons (js_for (ji_seq (je_ix (je_var 0) je_int)) (jg_name 2) (js_one (js_set 4 (je_call (fn__law_done T) (ja_cons (je_var 3) (ja_cons (je_var 1) (ja_cons (je_var 4) (ja_cons (je_var 2) ja_nil)))))))) (js_one (js_ret (je_call (fn__law_rows T) (ja_cons (je_var 3) (ja_cons (je_var 1) (ja_cons (je_var 4) ja_nil))))))))
theorem fn__law_board {p : Pc} (T : Top p fa fn exF) : Fn p "_law_board" 3 2 g__law_board := fn_def (df__law_board T) sc__law_board (fun _ _ _ _ _ _ _ us hl => match us, hl with | [_, _], _ => rfl) (j__law_board T)
/-! _law_bounds -/
abbrev N__law_bounds : List Str := ["plan", "deed", "period", "far", "by", "size"]
theorem sc__law_bounds : FnScope N__law_bounds ["plan"] (defScope s__law_bounds) := ⟨rfl, rfl, rfl, by decide +kernel, rfl, by decide +kernel, by decide +kernel⟩
theorem j__law_bounds {p : Pc} (T : Top p fa fn exF) : JSs p N__law_bounds 0 (ds s__law_bounds) (defBody s__law_bounds) sem__law_bounds :=
  (js_cons (js_asgT (je_tup (ja_cons je_int (ja_cons je_int ja_nil))) (jg_tup (jgs_cons 2 (jgs_cons 3 jgs_nil)))) (js_cons (js_for (ji_seq (je_ix (je_var 0) je_int)) (jg_name 1) (js_cons (js_if (jt_w (jw_or (jt_w (jw_and (jt_eq (je_ix (je_var 1) je_int) je_str) (jw_and1 (jt_eq (je_ix (je_var 1) je_int) je_str)))) (jw_or1 (jt_eq (je_sl (je_var 1) jo_no (jo_e je_int)) (je_tup (ja_cons je_str (ja_cons je_str ja_nil))))))) (js_cons (js_set 4 (je_ite (jt_eq (je_ix (je_var 1) je_int) je_str) (je_ix (je_var 1) je_int) (je_len (fr_len T) (ja_cons (je_ix (je_var 0) je_int) ja_nil)))) (js_one (js_set 2 (je_min (fr_min T) (ja_cons (je_lc finD_ok [("size", 5)] (ji_range2 (fr_range T) (ja_cons (je_var 2) (ja_cons (je_mul je_int (je_var 2)) ja_nil))) (jg_name 5) (jts_one (jt_w (jw_and (jt_eq (je_mod (je_var 5) (je_var 2)) je_int) (jw_and1 (jt_eq (je_mod (je_var 5) (je_var 4)) je_int))))) (je_var 5)) ja_nil))))) js_nil) (js_cons (js_if (jt_eq (je_sl (je_var 1) jo_no (jo_e je_int)) (je_tup (ja_cons je_str (ja_cons je_str ja_nil)))) (js_one (js_set 3 (je_add (je_var 3) (je_abs (fr_abs T) (ja_cons (je_ix (je_var 1) je_int) ja_nil))))) js_nil) (js_one (js_if (jt_eq (je_sl (je_var 1) jo_no (jo_e je_int)) (je_tup (ja_cons je_str (ja_cons je_str ja_nil)))) (js_one (js_set 3 (je_add (je_var 3) (je_mul (je_abs (fr_abs T) (ja_cons (je_ix (je_var 1) je_int) ja_nil)) (je_sub (je_len (fr_len T) (ja_cons (je_ix (je_var 0) je_int) ja_nil)) je_int))))) js_nil))))) (js_one (js_ret (je_tup (ja_cons (je_var 2) (ja_cons (je_var 3) ja_nil)))))))
theorem fn__law_bounds {p : Pc} (T : Top p fa fn exF) : Fn p "_law_bounds" 1 1 g__law_bounds := fn_def (df__law_bounds T) sc__law_bounds (fun _ _ _ _ _ _ _ us hl => match us, hl with | [_], _ => rfl) (j__law_bounds T)
/-! _law_top -/
abbrev N__law_top : List Str := ["one", "other", "mine", "yours"]
theorem sc__law_top : FnScope N__law_top ["one", "other"] (defScope s__law_top) := ⟨rfl, rfl, rfl, by decide +kernel, rfl, by decide +kernel, by decide +kernel⟩
theorem j__law_top {p : Pc} (T : Top p fa fn exF) : JSs p N__law_top 1 (ds s__law_top) (defBody s__law_top) sem__law_top :=
  (js_cons (js_par (ja_cons (je_call (fn__law_bounds T) (ja_cons (je_var 0) ja_nil)) (ja_cons (je_call (fn__law_bounds T) (ja_cons (je_var 1) ja_nil)) ja_nil))) (js_one (js_ret (je_add (je_mul je_int (je_max (fr_max T) (ja_cons (je_ix (je_var 2) je_int) (ja_cons (je_ix (je_var 3) je_int) ja_nil)))) (je_mul (je_mul je_int (je_ix (je_var 2) je_int)) (je_ix (je_var 3) je_int))))))
theorem fn__law_top {p : Pc} (T : Top p fa fn exF) : Fn p "_law_top" 2 2 g__law_top := fn_def (df__law_top T) sc__law_top (fun _ _ _ _ _ _ _ us hl => match us, hl with | [_, _], _ => rfl) (j__law_top T)
/-! _law_first -/
abbrev N__law_first : List Str := ["mine", "yours", "row", "column"]
theorem sc__law_first : FnScope N__law_first ["mine", "yours"] (defScope s__law_first) := ⟨rfl, rfl, rfl, by decide +kernel, rfl, by decide +kernel, by decide +kernel⟩
theorem j__law_first {p : Pc} (T : Top p fa fn exF) : JSs p N__law_first 0 (ds s__law_first) (defBody s__law_first) sem__law_first :=
  (js_cons (js_for (ji_range1 (fr_range T) (ja_cons (je_len (fr_len T) (ja_cons (je_var 0) ja_nil)) ja_nil)) (jg_name 2) (js_one (js_for (ji_range1 (fr_range T) (ja_cons (je_len (fr_len T) (ja_cons (je_ix (je_var 0) je_int) ja_nil)) ja_nil)) (jg_name 3) (js_one (js_if (jt_ne (je_ix (je_ix (je_var 0) (je_var 2)) (je_var 3)) (je_ix (je_ix (je_var 1) (je_var 2)) (je_var 3))) (js_one (js_ret (je_tup (ja_cons (je_len (fr_len T) (ja_cons (je_ix (je_var 0) je_int) ja_nil)) (ja_cons (je_var 2) (ja_cons (je_var 3) ja_nil)))))) js_nil))))) (js_one (js_ret je_non)))
theorem fn__law_first {p : Pc} (T : Top p fa fn exF) : Fn p "_law_first" 1 2 g__law_first := fn_def (df__law_first T) sc__law_first (fun _ _ _ _ _ _ _ us hl => match us, hl with | [_, _], _ => rfl) (j__law_first T)
/-! _law_turned -/
abbrev N__law_turned : List Str := ["board_so", "word", "rows", "row"]
theorem sc__law_turned : FnScope N__law_turned ["board_so", "word"] (defScope s__law_turned) := ⟨rfl, rfl, rfl, by decide +kernel, rfl, by decide +kernel, by decide +kernel⟩
theorem j__law_turned {p : Pc} (T : Top p fa fn exF) : JSs p N__law_turned 0 (ds s__law_turned) (defBody s__law_turned) sem__law_turned :=
  (js_cons (js_set 2 (je_ite (jt_in (je_var 1) (je_tup (ja_cons je_str (ja_cons je_str ja_nil)))) (je_rev (je_var 0)) (je_var 0))) (js_one (js_ret (je_ite (jt_in (je_var 1) (je_tup (ja_cons je_str (ja_cons je_str ja_nil)))) (je_tuple (fr_tuple T) (ja_cons (je_lc finD_ok [("row", 3)] (ji_seq (je_var 2)) (jg_name 3) jts_nil (je_rev (je_var 3))) ja_nil)) (je_var 2)))))
theorem fn__law_turned {p : Pc} (T : Top p fa fn exF) : Fn p "_law_turned" 1 2 g__law_turned := fn_def (df__law_turned T) sc__law_turned (fun _ _ _ _ _ _ _ us hl => match us, hl with | [_, _], _ => rfl) (j__law_turned T)
/-! _law_other -/
abbrev N__law_other : List Str := ["stack", "plan", "woods", "deeds", "at", "way", "one", "again"]
theorem sc__law_other : FnScope N__law_other ["stack", "plan"] (defScope s__law_other) := ⟨rfl, rfl, rfl, by decide +kernel, rfl, by decide +kernel, by decide +kernel⟩
theorem j__law_other {p : Pc} (T : Top p fa fn exF) : JSs p N__law_other 3 (ds s__law_other) (defBody s__law_other) sem__law_other :=
  (js_cons (js_asg (je_var 1) (jg_tup (jgs_cons 2 (jgs_cons 3 jgs_nil)))) (js_cons (js_par (ja_cons (je_call (fn__law_saw T) (ja_cons (je_var 0) (ja_cons (je_add (je_len (fr_len T) (ja_cons (je_var 3) ja_nil)) je_int) ja_nil))) (ja_cons (je_call (fn__law_saw T) (ja_cons (je_var 0) (ja_cons je_int ja_nil))) ja_nil))) (js_cons (js_if (jt_eq (je_var 5) je_int) (js_one (js_ret (je_tup (ja_cons (je_var 2) (ja_cons (je_add (je_sl (je_var 3) jo_no (jo_e (je_var 4))) (je_sl (je_var 3) (jo_e (je_add (je_var 4) je_int)) jo_no)) ja_nil))))) js_nil) (js_cons (js_if (jt_w (jw_and (jt_eq (je_var 5) je_int) (jw_and1 (jt_lt (je_len (fr_len T) (ja_cons (je_var 3) ja_nil)) je_int)))) (js_one (js_ret (je_tup (ja_cons (je_var 2) (ja_cons (je_add (je_var 3) (je_tup (ja_cons (je_call (fn__law_pick T) (ja_cons (je_var 0) (ja_cons (je_lst (ja_cons (je_tup (ja_cons je_str (ja_cons je_str ja_nil))) (ja_cons (je_tup (ja_cons je_str (ja_cons je_str ja_nil))) ja_nil))) ja_nil))) ja_nil))) ja_nil))))) js_nil) (js_cons (js_if (jt_w (jw_and (jt_eq (je_var 5) je_int) (jw_and1 (jt_lt (je_len (fr_len T) (ja_cons (je_var 3) ja_nil)) je_int)))) (js_cons (js_set 6 (je_call (fn__law_deed T) (ja_cons (je_var 0) ja_nil))) (js_cons (js_set 7 (je_ite (jt_in (je_ix (je_var 6) je_int) (je_tup (ja_cons je_str (ja_cons je_str ja_nil)))) (je_var 6) (je_add (je_sl (je_var 6) jo_no (jo_e je_int)) (je_tup (ja_cons (je_neg (je_ix (je_var 6) je_int)) ja_nil))))) (js_one (js_ret (je_tup (ja_cons (je_var 2) (ja_cons (je_add (je_add (je_sl (je_var 3) jo_no (jo_e (je_var 4))) (je_tup (ja_cons (je_var 6) (ja_cons (je_var 7) ja_nil)))) (je_sl (je_var 3) (jo_e (je_var 4)) jo_no)) ja_nil))))))) js_nil) (js_cons (js_if (jt_eq (je_var 5) je_int) (js_one (js_ret (je_tup (ja_cons (je_var 2) (ja_cons (je_add (je_add (je_sl (je_var 3) jo_no (jo_e (je_var 4))) (je_rev (je_sl (je_var 3) (jo_e (je_var 4)) (jo_e (je_add (je_var 4) je_int))))) (je_sl (je_var 3) (jo_e (je_add (je_var 4) je_int)) jo_no)) ja_nil))))) js_nil) (js_one (js_ret (je_tup (ja_cons (je_var 2) (ja_cons (je_add (je_add (je_sl (je_var 3) jo_no (jo_e (je_var 4))) (je_tup (ja_cons (je_call (fn__law_deed T) (ja_cons (je_var 0) ja_nil)) ja_nil))) (je_sl (je_var 3) (jo_e (je_add (je_var 4) je_int)) jo_no)) ja_nil)))))))))))
theorem fn__law_other {p : Pc} (T : Top p fa fn exF) : Fn p "_law_other" 4 2 g__law_other := fn_def (df__law_other T) sc__law_other (fun _ _ _ _ _ _ _ us hl => match us, hl with | [_, _], _ => rfl) (j__law_other T)
/-! _law_right -/
abbrev N__law_right : List Str := ["one", "other", "number", "due", "told", "partings", "words", "mine", "yours", "word", "place"]
theorem sc__law_right : FnScope N__law_right ["one", "other"] (defScope s__law_right) := ⟨rfl, rfl, rfl, by decide +kernel, rfl, by decide +kernel, by decide +kernel⟩
theorem j__law_right {p : Pc} (T : Top p fa fn exF) : JSs p N__law_right 6 (ds s__law_right) (defBody s__law_right) sem__law_right :=
  (js_cons (js_par (ja_cons (je_lst ja_nil) (ja_cons (je_lst (ja_cons je_str (ja_cons je_str (ja_cons je_str (ja_cons je_str ja_nil))))) ja_nil))) (js_cons (js_for (ji_range2 (fr_range T) (ja_cons je_int (ja_cons (je_add (je_call (fn__law_top T) (ja_cons (je_var 0) (ja_cons (je_var 1) ja_nil))) je_int) ja_nil))) (jg_name 2) (js_cons (js_asgT (je_tup (ja_cons (je_call (fn__law_board T) (ja_cons (je_var 0) (ja_cons (je_var 2) ja_nil))) (ja_cons (je_call (fn__law_board T) (ja_cons (je_var 1) (ja_cons (je_var 2) ja_nil))) ja_nil))) (jg_tup (jgs_cons 7 (jgs_cons 8 jgs_nil)))) (js_cons (js_if (jt_eq (je_var 5) (je_lst ja_nil)) (js_one (js_setLc 5 finD_ok [("place", 10)] (ji_seq (je_lst (ja_cons (je_call (fn__law_first T) (ja_cons (je_var 7) (ja_cons (je_var 8) ja_nil))) ja_nil))) (jg_name 10) (jts_one (jt_isnot (je_var 10) je_non)) (je_var 10))) js_nil) (js_one (js_setLc 6 finD_ok [("word", 9)] (ji_seq (je_var 6)) (jg_name 9) (jts_one (jt_eq (je_call (fn__law_turned T) (ja_cons (je_var 7) (ja_cons (je_var 9) ja_nil))) (je_var 8))) (je_var 9)))))) (js_cons (js_set 3 (je_ite (jt_ne (je_var 5) (je_lst ja_nil)) (je_ix (je_var 5) je_int) je_non)) (js_cons (js_set 4 (je_call (fn_alike T) (ja_cons (je_var 0) (ja_cons (je_var 1) ja_nil)))) (js_cons (js_if (jt_w (jw_or (jt_not (jt_val (je_isi (fr_isinstance T) (ja_cons (je_var 4) (ja_cons (je_ty (n := .bool) (fr_bool T) (by decide +kernel)) ja_nil))))) (jw_or (jt_ne (je_var 4) (je_is (je_var 3) je_non)) (jw_or1 (jt_ne (je_call (fn_parting T) (ja_cons (je_var 0) (ja_cons (je_var 1) ja_nil))) (je_var 3)))))) (js_one (js_ret je_bl)) js_nil) (js_one (js_ret (je_eq (je_call (fn_turns T) (ja_cons (je_var 0) (ja_cons (je_var 1) ja_nil))) (je_var 6)))))))))
theorem fn__law_right {p : Pc} (T : Top p fa fn exF) : Fn p "_law_right" 7 2 g__law_right := fn_def (df__law_right T) sc__law_right (fun _ _ _ _ _ _ _ us hl => match us, hl with | [_, _], _ => rfl) (j__law_right T)
/-! _law_refused -/
abbrev N__law_refused : List Str := ["one", "other", "words", "call"]
theorem sc__law_refused : FnScope N__law_refused ["one", "other"] (defScope s__law_refused) := ⟨rfl, rfl, rfl, by decide +kernel, rfl, by decide +kernel, by decide +kernel⟩
theorem j__law_refused {p : Pc} (T : Top p fa fn exF) : JSs p N__law_refused 6 (ds s__law_refused) (defBody s__law_refused) sem__law_refused :=
  (js_cons (js_set 2 (je_lstO ja_nil)) (js_cons (js_for (ji_seq (je_tup (ja_cons (je_glob (gl_fn (fn_alike T))) (ja_cons (je_glob (gl_fn (fn_parting T))) (ja_cons (je_glob (gl_fn (fn_turns T))) ja_nil))))) (jg_name 3) (js_one (js_try (tkf T) (js_one (js_expr (je_callL 3 (.cons (fn_alike T) (by decide) (.cons (fn_parting T) (by decide) (.cons (fn_turns T) (by decide) .nil))) (ja_cons (je_var 0) (ja_cons (je_var 1) ja_nil))))) (.cons rfl (by decide) (cl_Unlike T) (ju_append 2) (.cons rfl (by decide) (cl_BoardError T) (ju_append 2) .nil))))) (js_one (js_ret (je_eq (je_var 2) (je_mul (je_lst (ja_cons je_str ja_nil)) je_int))))))
theorem fn__law_refused {p : Pc} (T : Top p fa fn exF) : Fn p "_law_refused" 7 2 g__law_refused := fn_def (df__law_refused T) sc__law_refused (fun _ _ _ _ _ _ _ us hl => match us, hl with | [_, _], _ => rfl) (j__law_refused T)
/-! law -/
abbrev N_law : List Str := ["script", "cell", "checked", "onward", "stack", "one", "other", "wide"]
theorem sc_law : FnScope N_law ["script"] (defScope s_law) := ⟨rfl, rfl, rfl, by decide +kernel, rfl, by decide +kernel, by decide +kernel⟩
theorem j_law {p : Pc} (T : Top p fa fn exF) : JSs p N_law 7 (ds s_law) (defBody s_law) sem_law :=
  (js_cons (js_for (ji_seq (je_sl (je_add (je_lst (ja_cons je_int ja_nil)) (je_var 0)) jo_no (jo_e je_int))) (jg_name 1) (js_cons (js_set 4 (je_call (fn__law_stack T) (ja_cons (je_var 1) (ja_cons je_int ja_nil)))) (js_cons (js_set 5 (je_call (fn__law_plan T) (ja_cons (je_var 4) (ja_cons je_int (ja_cons je_int ja_nil))))) (js_cons (js_for (ji_seq (je_tup (ja_cons (je_call (fn__law_other T) (ja_cons (je_var 4) (ja_cons (je_var 5) ja_nil))) (ja_cons (je_call (fn__law_other T) (ja_cons (je_var 4) (ja_cons (je_call (fn__law_other T) (ja_cons (je_var 4) (ja_cons (je_var 5) ja_nil))) ja_nil))) (ja_cons (je_var 5) ja_nil))))) (jg_name 6) (js_one (js_if (jt_w (jw_and (jt_lt (je_len (fr_len T) (ja_cons (je_ix (je_var 6) je_int) ja_nil)) je_int) (jw_and1 (jt_not (jt_val (je_call (fn__law_right T) (ja_cons (je_var 5) (ja_cons (je_var 6) ja_nil)))))))) (js_one (js_ret je_bl)) js_nil))) (js_cons (js_set 7 (je_tup (ja_cons (je_add (je_ix (je_var 5) je_int) (je_tup (ja_cons je_str ja_nil))) (ja_cons (je_ix (je_var 5) je_int) ja_nil)))) (js_one (js_if (jt_w (jw_or (jt_not (jt_val (je_call (fn__law_refused T) (ja_cons (je_var 5) (ja_cons (je_var 7) ja_nil))))) (jw_or1 (jt_not (jt_val (je_call (fn__law_refused T) (ja_cons (je_var 7) (ja_cons (je_var 5) ja_nil)))))))) (js_one (js_ret je_bl)) js_nil))))))) (js_cons (js_set 2 (je_tup (ja_cons (je_tup (ja_cons je_str (ja_cons je_str ja_nil))) (ja_cons (je_tup (ja_cons (je_tup (ja_cons je_str (ja_cons je_str (ja_cons je_int (ja_cons je_int ja_nil))))) ja_nil)) ja_nil)))) (js_cons (js_if (jt_ne (je_call (fn_turns T) (ja_cons (je_var 2) (ja_cons (je_tup (ja_cons (je_tup (ja_cons je_str (ja_cons je_str ja_nil))) (ja_cons (je_tup (ja_cons (je_tup (ja_cons je_str (ja_cons je_str (ja_cons je_int (ja_cons je_int ja_nil))))) ja_nil)) ja_nil))) ja_nil))) (je_lst (ja_cons je_str ja_nil))) (js_one (js_ret je_bl)) js_nil) (js_cons (js_set 3 (je_tup (ja_cons (je_tup (ja_cons je_str (ja_cons je_str ja_nil))) (ja_cons (je_tup (ja_cons (je_tup (ja_cons je_str (ja_cons je_str (ja_cons je_int (ja_cons je_int ja_nil))))) (ja_cons (je_tup (ja_cons je_str (ja_cons je_str (ja_cons je_int ja_nil)))) ja_nil))) ja_nil)))) (js_one (js_ret (je_and (je_eq (je_call (fn_parting T) (ja_cons (je_var 2) (ja_cons (je_var 3) ja_nil))) (je_tup (ja_cons je_int (ja_cons je_int (ja_cons je_int ja_nil))))) (je_one (je_is (je_call (fn_parting T) (ja_cons (je_var 3) (ja_cons (je_var 3) ja_nil))) je_non)))))))))
end K06
namespace K06
open PySem PySem.W PySem.Calls PyProof.Rows GB Sh
theorem law_holds (hg : ∀ ns : List Int, ns.length ≤ 63 → (∀ z ∈ ns, Builtin.Int.intBits z ≤ 1048576) → ∀ sc S, ScriptAt ns sc S → ∃ S1, g_law [sc] S = .ok (.bl true) S1) : PySem.Challenge.rw_gluedboards_k06_plans_beside_each_other.Holds := by
  w_on; o_law
  refine HandSHeadRun.head_any (r := OpenLaw.row PySem.Challenge.rw_gluedboards_k06_plans_beside_each_other) (q := view (OpenLaw.row PySem.Challenge.rw_gluedboards_k06_plans_beside_each_other).prog [52]) (H := hk) (ob := ob) (M := 3000) (loose := nms) (d := HandSHeadRun.topDef (OpenLaw.row PySem.Challenge.rw_gluedboards_k06_plans_beside_each_other).prog 52) (kwd := []) ob_eq
    (by kernel_rfl) (fun s => by kernel_rfl) run (by kernel_rfl) (by kernel_rfl) (by kernel_rfl) (by rfl) (by first | assumption | decide +kernel) (by decide +kernel) ⟨rfl, rfl, rfl, rfl, rfl, by decide +kernel⟩ ?hw ?hc
  case hw => w_witness2
  case hc =>
    exact law_walk (l := PySem.Challenge.rw_gluedboards_k06_plans_beside_each_other) (n := 63) (k := 7) (st := s_law) rfl (by decide) (by kernel_rfl) (by kernel_rfl) ⟨rfl, by decide, by decide⟩ 40 40 rfl rfl (fun _ _ _ _ _ _ us hl => match us, hl with | [_], _ => rfl) sc_law sem_law (fun p hp T => j_law T) hg
end K06
open PySem PySem.W PySem.Calls PyProof.Rows
theorem PySem.Challenge.cw_gluedboards_k06_plans_beside_each_other_holds : PySem.Challenge.rw_gluedboards_k06_plans_beside_each_other.Holds := by
  exact K06.law_holds fun ns hl _ sc S h => K06.law_true ns sc S h hl
