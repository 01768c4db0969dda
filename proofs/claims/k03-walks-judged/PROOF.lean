import PyProof.Rows.All
import Wide.All
import OpenK.AllK
import Wide.FinOn
import HandS.ForMost
import HandS.ForExc
import HandS.Evl
import HandS.ExcInit
import HandS.Lambda
import HandS.IsInst
import HandS.Strs
import HandS.Defaults
import HandS.Text
import HandS.Deep
import HandS.TupAny
import HandS.Style
import HandS.TupLe
import HandS.Iter
import HandS.Zip
import PyProof.Draws
import HandS.SortInts
import HandS.RaiseMore
import HandS.DictComp
import HandS.More
import HandS.TryMany
import HandS.Codes
import HandS.Exc
import HandS.ExcField
import HandS.ListItems
import HandS.SetFor
import PyProof.ListStr
import HandS.Flow
import HandS.EndTab
import HandS.Head0
import HandS.Head1
import HandS.Head2
import HandS.HeadEnd
import HandS.HeadHook1
import HandS.HeadHook2
import HandS.HeadHook3
import HandS.HeadHook4
import HandS.HeadWalk
import PySem.Challenge.RW_ruledwords_k03_walks_judged
import HandS.ReCall
import HandS.StrMore
import HandS.Dict
import HandS.MakeKwOnly
import HandS.TryOnly
set_option Elab.async false
set_option linter.all false
set_option maxRecDepth 100000
set_option maxHeartbeats 4000000
/-! DLA: data trees, what stands for them in the abstract heap, the state of a body as data. -/
namespace DL
open PySem PySem.Spec PyProof.Rows L2 Evl

/-! ### data -/
inductive D where
  | non
  | bl (b : Bool)
  | int (i : Int)
  | str (x : Str)
  | lst (xs : List D)
  | tup (xs : List D)
  | dct (ks vs : List D)
  | obj (C : Addr) (ns : List Str) (vs : List D)
  | opq (v : V)
deriving Inhabited

def keyD : D → Option Key
  | .int i => some (.inl i)
  | .str x => some (.inr x)
  | _ => none
def keysD : List D → Option (List Key)
  | [] => some []
  | d :: ds => match keyD d, keysD ds with
    | some k, some ks => some (k :: ks)
    | _, _ => none
mutual
/-- v stands for d, in the heap of what never changes -/
def Rp (K : PySem.W.Frag) (B : Hp) : D → V → Prop
  | .non, v => v = .non
  | .bl b, v => v = .bl b
  | .int i, v => v = .int i
  | .str x, v => v = .str x
  | .lst ds, v => ∃ a xs, v = .ref a ∧ B a = some (.lst xs) ∧ RpL K B ds xs
  | .tup ds, v => ∃ a xs, v = .ref a ∧ SqT K B a xs ∧ RpL K B ds xs
  | .dct ks ds, v => ∃ a xs, v = .ref a ∧ RpL K B ds xs ∧ ∃ kk, keysD ks = some kk ∧ kk.length = xs.length ∧ B a = some (.dK (kk.zip xs))
  | .obj C ns ds, v => ∃ a dx xs, v = .ref a ∧ B a = some (.ins C dx (ns.zip xs)) ∧ ns.length = xs.length ∧ RpL K B ds xs
  | .opq u, v => v = u
def RpL (K : PySem.W.Frag) (B : Hp) : List D → List V → Prop
  | [], xs => xs = []
  | d :: ds, xs => ∃ y ys, xs = y :: ys ∧ Rp K B d y ∧ RpL K B ds ys
end

mutual
theorem Rp.mono {K : PySem.W.Frag} {B B' : Hp} (e : Ex B B') : ∀ {d : D} {v : V}, Rp K B d v → Rp K B' d v
  | .non, _, h => h
  | .bl _, _, h => h
  | .int _, _, h => h
  | .str _, _, h => h
  | .lst _, _, ⟨a, xs, e1, e2, e3⟩ => ⟨a, xs, e1, e a _ e2, RpL.mono e e3⟩
  | .tup _, _, ⟨a, xs, e1, e2, e3⟩ => ⟨a, xs, e1, ex_t e e2, RpL.mono e e3⟩
  | .dct _ _, _, ⟨a, xs, e1, e2, kk, z1, z2, z3⟩ => ⟨a, xs, e1, RpL.mono e e2, kk, z1, z2, e a _ z3⟩
  | .obj _ _ _, _, ⟨a, dx, xs, e1, e2, e3, e4⟩ => ⟨a, dx, xs, e1, e a _ e2, e3, RpL.mono e e4⟩
  | .opq _, _, h => h
theorem RpL.mono {K : PySem.W.Frag} {B B' : Hp} (e : Ex B B') : ∀ {ds : List D} {xs : List V}, RpL K B ds xs → RpL K B' ds xs
  | [], _, h => h
  | _ :: _, _, ⟨y, ys, e1, e2, e3⟩ => ⟨y, ys, e1, Rp.mono e e2, RpL.mono e e3⟩
end
section
variable {K : PySem.W.Frag} {B : Hp}
theorem RpL.len : ∀ {ds : List D} {xs : List V}, RpL K B ds xs → xs.length = ds.length
  | [], _, h => by rw [show _ = ([] : List V) from h]; rfl
  | _ :: ds, _, ⟨y, ys, e1, _, e3⟩ => by rw [e1, List.length_cons, List.length_cons, RpL.len e3]
theorem RpL.get : ∀ {ds : List D} {xs : List V} {i : Nat} {d : D}, RpL K B ds xs → ds[i]? = some d → ∃ x, xs[i]? = some x ∧ Rp K B d x
  | [], _, _, _, _, e => by simp at e
  | d :: ds, _, 0, d', ⟨y, ys, e1, e2, _⟩, e => by
    obtain rfl : d = d' := Option.some.inj e
    exact ⟨y, by rw [e1]; rfl, e2⟩
  | d :: ds, _, i + 1, d', ⟨y, ys, e1, _, e3⟩, e => by
    obtain ⟨x, h1, h2⟩ := RpL.get (i := i) e3 e
    exact ⟨x, by rw [e1]; exact h1, h2⟩
theorem RpL.get' : ∀ {ds : List D} {xs : List V} {i : Nat} {x : V}, RpL K B ds xs → xs[i]? = some x → ∃ d, ds[i]? = some d ∧ Rp K B d x
  | [], _, _, _, h, e => by rw [show _ = ([] : List V) from h] at e; simp at e
  | d :: ds, _, 0, x, ⟨y, ys, e1, e2, _⟩, e => by
    rw [e1] at e
    obtain rfl : y = x := Option.some.inj e
    exact ⟨d, rfl, e2⟩
  | d :: ds, _, i + 1, x, ⟨y, ys, e1, _, e3⟩, e => by
    rw [e1] at e
    exact RpL.get' (i := i) e3 e
theorem RpL.append : ∀ {ds es : List D} {xs ys : List V}, RpL K B ds xs → RpL K B es ys → RpL K B (ds ++ es) (xs ++ ys)
  | [], _, _, _, h, h' => by rw [show _ = ([] : List V) from h]; exact h'
  | d :: ds, _, _, _, ⟨y, ys, e1, e2, e3⟩, h' => ⟨y, _, by rw [e1]; rfl, e2, RpL.append e3 h'⟩
theorem RpL.one {d : D} {x : V} (h : Rp K B d x) : RpL K B [d] [x] := ⟨x, [], rfl, h, rfl⟩
theorem RpL.take : ∀ {ds : List D} {xs : List V} (n : Nat), RpL K B ds xs → RpL K B (ds.take n) (xs.take n)
  | _, _, 0, _ => rfl
  | [], _, n + 1, h => by rw [show _ = ([] : List V) from h]; exact rfl
  | d :: ds, _, n + 1, ⟨y, ys, e1, e2, e3⟩ => ⟨y, ys.take n, by rw [e1]; rfl, e2, RpL.take n e3⟩
theorem RpL.drop : ∀ {ds : List D} {xs : List V} (n : Nat), RpL K B ds xs → RpL K B (ds.drop n) (xs.drop n)
  | _, _, 0, h => h
  | [], _, n + 1, h => by rw [show _ = ([] : List V) from h]; exact rfl
  | d :: ds, _, n + 1, ⟨y, ys, e1, e2, e3⟩ => by rw [e1]; exact RpL.drop n e3
theorem RpL.strs : ∀ (xs : List Str), RpL K B (xs.map D.str) (xs.map V.str)
  | [] => rfl
  | x :: xs => ⟨_, _, rfl, rfl, RpL.strs xs⟩
theorem RpL.ints : ∀ (xs : List Int), RpL K B (xs.map D.int) (xs.map V.int)
  | [] => rfl
  | x :: xs => ⟨_, _, rfl, rfl, RpL.ints xs⟩
theorem RpL.bls : ∀ (xs : List Bool), RpL K B (xs.map D.bl) (xs.map V.bl)
  | [] => rfl
  | x :: xs => ⟨_, _, rfl, rfl, RpL.bls xs⟩
theorem RpL.strs_inv : ∀ {xs : List Str} {ys : List V}, RpL K B (xs.map D.str) ys → ys = xs.map V.str
  | [], _, h => h
  | x :: xs, _, ⟨y, ys, e1, e2, e3⟩ => by rw [e1, show y = V.str x from e2, RpL.strs_inv e3]; rfl
theorem RpL.ints_inv : ∀ {xs : List Int} {ys : List V}, RpL K B (xs.map D.int) ys → ys = xs.map V.int
  | [], _, h => h
  | x :: xs, _, ⟨y, ys, e1, e2, e3⟩ => by rw [e1, show y = V.int x from e2, RpL.ints_inv e3]; rfl
theorem RpL.bls_inv : ∀ {xs : List Bool} {ys : List V}, RpL K B (xs.map D.bl) ys → ys = xs.map V.bl
  | [], _, h => h
  | x :: xs, _, ⟨y, ys, e1, e2, e3⟩ => by rw [e1, show y = V.bl x from e2, RpL.bls_inv e3]; rfl
end

/-! ### owned trees -/
inductive OT where
  | frz (d : D)
  | ol (ts : List OT)
  | ot (ts : List OT)
  | od (ks : List D) (ts : List OT)
  | oo (C : Addr) (ns : List Str) (ts : List OT)
deriving Inhabited
mutual
def OT.d : OT → D
  | .frz d => d
  | .ol ts => .lst (OT.ds ts)
  | .ot ts => .tup (OT.ds ts)
  | .od ks ts => .dct ks (OT.ds ts)
  | .oo C ns ts => .obj C ns (OT.ds ts)
def OT.ds : List OT → List D
  | [] => []
  | t :: ts => t.d :: OT.ds ts
end
theorem OT.ds_map : ∀ ts : List OT, OT.ds ts = ts.map OT.d
  | [] => rfl
  | t :: ts => by rw [OT.ds, OT.ds_map ts]; rfl

mutual
/-- v stands for the tree t: its own nodes stand at F, in H; all else in B -/
def RpO (K : PySem.W.Frag) (H B : Hp) : OT → V → List Addr → Prop
  | .frz d, v, F => F = [] ∧ Rp K B d v
  | .ol ts, v, F => ∃ a xs G, v = .ref a ∧ F = a :: G ∧ H a = some (.lst xs) ∧ RpOs K H B ts xs G
  | .ot ts, v, F => ∃ a xs G, v = .ref a ∧ F = a :: G ∧ H a = some (.tup xs) ∧ RpOs K H B ts xs G
  | .od ks ts, v, F => ∃ a xs G, v = .ref a ∧ F = a :: G ∧ RpOs K H B ts xs G ∧ ∃ kk, keysD ks = some kk ∧ kk.length = xs.length ∧ H a = some (.dK (kk.zip xs))
  | .oo C ns ts, v, F => ∃ a dx xs G, v = .ref a ∧ F = a :: dx :: G ∧ H a = some (.ins C dx (ns.zip xs)) ∧ H dx = some (.own a) ∧ ns.length = xs.length ∧ RpOs K H B ts xs G
def RpOs (K : PySem.W.Frag) (H B : Hp) : List OT → List V → List Addr → Prop
  | [], xs, F => xs = [] ∧ F = []
  | t :: ts, xs, F => ∃ y ys F1 F2, xs = y :: ys ∧ F = F1 ++ F2 ∧ RpO K H B t y F1 ∧ RpOs K H B ts ys F2
end
mutual
theorem RpO.mono {K : PySem.W.Frag} {H H' B B' : Hp} (e : Ex B B') : ∀ {t : OT} {v : V} {F : List Addr}, (∀ a ∈ F, ∀ o, H a = some o → H' a = some o) → RpO K H B t v F → RpO K H' B' t v F
  | .frz d, _, _, _, ⟨h1, h2⟩ => ⟨h1, Rp.mono e h2⟩
  | .ol ts, _, _, k, ⟨a, xs, G, e1, e2, e3, e4⟩ => ⟨a, xs, G, e1, e2, k a (by rw [e2]; exact List.mem_cons_self) _ e3, RpOs.mono e (fun b hb => k b (by rw [e2]; exact List.mem_cons_of_mem _ hb)) e4⟩
  | .ot ts, _, _, k, ⟨a, xs, G, e1, e2, e3, e4⟩ => ⟨a, xs, G, e1, e2, k a (by rw [e2]; exact List.mem_cons_self) _ e3, RpOs.mono e (fun b hb => k b (by rw [e2]; exact List.mem_cons_of_mem _ hb)) e4⟩
  | .od ks ts, _, _, k, ⟨a, xs, G, e1, e2, e3, e4⟩ => ⟨a, xs, G, e1, e2, RpOs.mono e (fun b hb => k b (by rw [e2]; exact List.mem_cons_of_mem _ hb)) e3,
      let ⟨kk, z1, z2, z3⟩ := e4; ⟨kk, z1, z2, k a (by rw [e2]; exact List.mem_cons_self) _ z3⟩⟩
  | .oo C ns ts, _, _, k, ⟨a, dx, xs, G, e1, e2, e3, e4, e5, e6⟩ => ⟨a, dx, xs, G, e1, e2, k a (by rw [e2]; exact List.mem_cons_self) _ e3, k dx (by rw [e2]; exact List.mem_cons_of_mem _ List.mem_cons_self) _ e4, e5,
      RpOs.mono e (fun b hb => k b (by rw [e2]; exact List.mem_cons_of_mem _ (List.mem_cons_of_mem _ hb))) e6⟩
theorem RpOs.mono {K : PySem.W.Frag} {H H' B B' : Hp} (e : Ex B B') : ∀ {ts : List OT} {xs : List V} {F : List Addr}, (∀ a ∈ F, ∀ o, H a = some o → H' a = some o) → RpOs K H B ts xs F → RpOs K H' B' ts xs F
  | [], _, _, _, h => h
  | t :: ts, _, _, k, ⟨y, ys, F1, F2, e1, e2, e3, e4⟩ => ⟨y, ys, F1, F2, e1, e2, RpO.mono e (fun b hb => k b (by rw [e2]; exact List.mem_append_left _ hb)) e3, RpOs.mono e (fun b hb => k b (by rw [e2]; exact List.mem_append_right _ hb)) e4⟩
end
/-- the frozen heap with the objects at F taken in -/
def frzB (H B : Hp) (F : List Addr) : Hp := fun a => if a ∈ F then H a else B a
theorem frzB_in {H B : Hp} {F : List Addr} {a : Addr} (h : a ∈ F) : frzB H B F a = H a := if_pos h
theorem frzB_out {H B : Hp} {F : List Addr} {a : Addr} (h : a ∉ F) : frzB H B F a = B a := if_neg h
theorem frzB_ex {H B : Hp} {F : List Addr} (h : ∀ a ∈ F, B a = none) : Ex B (frzB H B F) := fun a o e => by
  by_cases hF : a ∈ F
  · rw [h a hF] at e
    cases e
  · rw [frzB_out hF]
    exact e
theorem frzB_sub {H B : Hp} {F : List Addr} (h : Ex B H) : Ex (frzB H B F) H := fun a o e => by
  by_cases hF : a ∈ F
  · rw [frzB_in hF] at e
    exact e
  · rw [frzB_out hF] at e
    exact h a o e
mutual
theorem RpO.freeze {K : PySem.W.Frag} {H B B' : Hp} (e : Ex B B') : ∀ {t : OT} {v : V} {F : List Addr}, (∀ a ∈ F, B' a = H a) → RpO K H B t v F → Rp K B' t.d v
  | .frz d, _, _, _, ⟨_, h2⟩ => Rp.mono e h2
  | .ol ts, _, _, k, ⟨a, xs, G, e1, e2, e3, e4⟩ => ⟨a, xs, e1, ((k a (by rw [e2]; exact List.mem_cons_self)).trans e3), RpOs.freeze e (fun b hb => k b (by rw [e2]; exact List.mem_cons_of_mem _ hb)) e4⟩
  | .ot ts, _, _, k, ⟨a, xs, G, e1, e2, e3, e4⟩ => ⟨a, xs, e1, .of ((k a (by rw [e2]; exact List.mem_cons_self)).trans e3), RpOs.freeze e (fun b hb => k b (by rw [e2]; exact List.mem_cons_of_mem _ hb)) e4⟩
  | .od ks ts, _, _, k, ⟨a, xs, G, e1, e2, e3, e4⟩ => ⟨a, xs, e1, RpOs.freeze e (fun b hb => k b (by rw [e2]; exact List.mem_cons_of_mem _ hb)) e3,
      let ⟨kk, z1, z2, z3⟩ := e4; ⟨kk, z1, z2, (k a (by rw [e2]; exact List.mem_cons_self)).trans z3⟩⟩
  | .oo C ns ts, _, _, k, ⟨a, dx, xs, G, e1, e2, e3, e4, e5, e6⟩ => ⟨a, dx, xs, e1, (k a (by rw [e2]; exact List.mem_cons_self)).trans e3, e5, RpOs.freeze e (fun b hb => k b (by rw [e2]; exact List.mem_cons_of_mem _ (List.mem_cons_of_mem _ hb))) e6⟩
theorem RpOs.freeze {K : PySem.W.Frag} {H B B' : Hp} (e : Ex B B') : ∀ {ts : List OT} {xs : List V} {F : List Addr}, (∀ a ∈ F, B' a = H a) → RpOs K H B ts xs F → RpL K B' (OT.ds ts) xs
  | [], _, _, _, h => h.1
  | t :: ts, _, _, k, ⟨y, ys, F1, F2, e1, e2, e3, e4⟩ => ⟨y, ys, e1, RpO.freeze e (fun b hb => k b (by rw [e2]; exact List.mem_append_left _ hb)) e3, RpOs.freeze e (fun b hb => k b (by rw [e2]; exact List.mem_append_right _ hb)) e4⟩
end
mutual
theorem RpO.there {K : PySem.W.Frag} {H B : Hp} : ∀ {t : OT} {v : V} {F : List Addr}, RpO K H B t v F → ∀ a ∈ F, ∃ o, H a = some o ∧ ∀ ps, o ≠ .tbl ps
  | .frz d, _, _, ⟨h1, _⟩, a, ha => by rw [h1] at ha; cases ha
  | .ol ts, _, _, ⟨b, xs, G, e1, e2, e3, e4⟩, a, ha => by
    rw [e2] at ha
    rcases List.mem_cons.mp ha with z | z
    · rw [z]; exact ⟨_, e3, fun _ z => by cases z⟩
    · exact RpOs.there e4 a z
  | .ot ts, _, _, ⟨b, xs, G, e1, e2, e3, e4⟩, a, ha => by
    rw [e2] at ha
    rcases List.mem_cons.mp ha with z | z
    · rw [z]; exact ⟨_, e3, fun _ z => by cases z⟩
    · exact RpOs.there e4 a z
  | .od ks ts, _, _, ⟨b, xs, G, e1, e2, e3, e4⟩, a, ha => by
    rw [e2] at ha
    rcases List.mem_cons.mp ha with z | z
    · rw [z]
      obtain ⟨kk, _, _, q⟩ := e4
      exact ⟨_, q, fun _ z => by cases z⟩
    · exact RpOs.there e3 a z
  | .oo C ns ts, _, _, ⟨b, dx, xs, G, e1, e2, e3, e4, e5, e6⟩, a, ha => by
    rw [e2] at ha
    rcases List.mem_cons.mp ha with z | z
    · rw [z]; exact ⟨_, e3, fun _ z => by cases z⟩
    · rcases List.mem_cons.mp z with z | z
      · rw [z]; exact ⟨_, e4, fun _ z => by cases z⟩
      · exact RpOs.there e6 a z
theorem RpOs.there {K : PySem.W.Frag} {H B : Hp} : ∀ {ts : List OT} {xs : List V} {F : List Addr}, RpOs K H B ts xs F → ∀ a ∈ F, ∃ o, H a = some o ∧ ∀ ps, o ≠ .tbl ps
  | [], _, _, h, a, ha => by rw [h.2] at ha; cases ha
  | t :: ts, _, _, ⟨y, ys, F1, F2, e1, e2, e3, e4⟩, a, ha => by
    rw [e2] at ha
    rcases List.mem_append.mp ha with z | z
    · exact RpO.there e3 a z
    · exact RpOs.there e4 a z
end
end DL

set_option Elab.async false
set_option linter.all false
set_option maxRecDepth 100000
set_option maxHeartbeats 4000000
/-! DLB: the state of a body: slots, temporaries, what is frozen, the spring of draws. -/
namespace DL
open PySem PySem.Spec PyProof.Rows L2 Evl

/-- the world of a law's run: the written part, the spring (a list at st, its cells at cs), the tables of code objects -/
structure Wd where
  K : PySem.W.Frag
  st : Addr
  cs : Addr
  T : List (Addr × Str)
/-- the entry of a body: the heap, what was frozen, what was handed in to be changed -/
structure Ent where
  H : Hp
  B : Hp
  M : List Addr
  P : List (Option V) := []
/-- the slots that stay as they are -/
def PinS : List (Option V) → L2.St → Prop
  | [], _ => True
  | none :: P, σ => PinS P σ.tail
  | some v :: P, σ => σ.head? = some (some v) ∧ PinS P σ.tail
theorem PinS.set : ∀ {P : List (Option V)} {σ : L2.St} {i : Nat} {x : Option V}, PinS P σ → P.getD i none = none → PinS P (σ.set i x)
  | [], _, _, _, _, _ => True.intro
  | none :: P, [], i, x, h, _ => by rw [List.set_nil]; exact h
  | some v :: P, [], i, x, h, _ => by rw [List.set_nil]; exact h
  | none :: P, y :: σ, 0, x, h, _ => h
  | some v :: P, y :: σ, 0, x, h, e => by simp at e
  | none :: P, y :: σ, i + 1, x, h, e => PinS.set (P := P) (σ := σ) (i := i) h (by simpa using e)
  | some v :: P, y :: σ, i + 1, x, h, e => ⟨h.1, PinS.set (P := P) (σ := σ) (i := i) h.2 (by simpa using e)⟩

def StrOk (Z : Wd) (n : Nat) (H : Hp) : Prop := ∃ (ns : List Int) (a b c : Int), H Z.st = some (.lst [.ref Z.cs, .int a, .int b, .int c]) ∧ H Z.cs = some (.lst (ns.map V.int)) ∧ Z.st ≠ Z.cs ∧
  ns.length ≤ 63 ∧ 0 ≤ a ∧ 0 ≤ b ∧ b + (n : Int) ≤ 1099511627776 ∧ 0 ≤ c ∧ c < 2147483647
theorem StrOk.le {Z : Wd} {n m : Nat} {H : Hp} (h : StrOk Z n H) (hm : m ≤ n) : StrOk Z m H := by
  obtain ⟨ns, a, b, c, h1, h2, h3, h4, h5, h6, h7, h8⟩ := h
  exact ⟨ns, a, b, c, h1, h2, h3, h4, h5, h6, by omega, h8⟩
theorem StrOk.ex {Z : Wd} {n : Nat} {H H2 : Hp} (h : StrOk Z n H) (e : Ex H H2) : StrOk Z n H2 := by
  obtain ⟨ns, a, b, c, h1, h2, h3⟩ := h
  exact ⟨ns, a, b, c, e _ _ h1, e _ _ h2, h3⟩
theorem StrOk.st {Z : Wd} {n : Nat} {H : Hp} (h : StrOk Z n H) : H Z.st ≠ none := by
  obtain ⟨ns, a, b, c, h1, h2, h3⟩ := h
  rw [h1]; exact fun z => by cases z
theorem StrOk.cs {Z : Wd} {n : Nat} {H : Hp} (h : StrOk Z n H) : H Z.cs ≠ none := by
  obtain ⟨ns, a, b, c, h1, h2, h3⟩ := h
  rw [h2]; exact fun z => by cases z

structure Evo (Z : Wd) (E : Ent) (H B : Hp) : Prop where
  ex : ∀ a o, E.H a = some o → a ∉ E.M → a ≠ Z.st → a ≠ Z.cs → (∀ ps, o ≠ .tbl ps) → H a = some o
  tb : ∀ a ps, E.H a = some (.tbl ps) → ∃ ps', H a = some (.tbl ps')
  exB : Ex E.B B
  new : ∀ a, E.B a = none → B a ≠ none → E.H a = none ∨ a ∈ E.M
  sub : Ex B H

/-- slots -/
def RpS (K : PySem.W.Frag) (H B : Hp) : List (Option OT) → L2.St → List Addr → Prop
  | [], σ, F => σ = [] ∧ F = []
  | none :: Γ, σ, F => ∃ x σ', σ = x :: σ' ∧ RpS K H B Γ σ' F
  | some t :: Γ, σ, F => ∃ v σ' F1 F2, σ = some v :: σ' ∧ F = F1 ++ F2 ∧ RpO K H B t v F1 ∧ RpS K H B Γ σ' F2
section
variable {K : PySem.W.Frag} {H B H' B' : Hp}
theorem RpS.mono (e : Ex B B') : ∀ {Γ : List (Option OT)} {σ : L2.St} {F : List Addr}, (∀ a ∈ F, ∀ o, H a = some o → H' a = some o) → RpS K H B Γ σ F → RpS K H' B' Γ σ F
  | [], _, _, _, h => h
  | none :: Γ, _, _, k, ⟨x, σ', e1, e2⟩ => ⟨x, σ', e1, RpS.mono e k e2⟩
  | some t :: Γ, _, _, k, ⟨v, σ', F1, F2, e1, e2, e3, e4⟩ => ⟨v, σ', F1, F2, e1, e2, RpO.mono e (fun a ha => k a (by rw [e2]; exact List.mem_append_left _ ha)) e3, RpS.mono e (fun a ha => k a (by rw [e2]; exact List.mem_append_right _ ha)) e4⟩
theorem RpS.there : ∀ {Γ : List (Option OT)} {σ : L2.St} {F : List Addr}, RpS K H B Γ σ F → ∀ a ∈ F, ∃ o, H a = some o ∧ ∀ ps, o ≠ .tbl ps
  | [], _, _, h, a, ha => by rw [h.2] at ha; cases ha
  | none :: Γ, _, _, ⟨x, σ', e1, e2⟩, a, ha => RpS.there e2 a ha
  | some t :: Γ, _, _, ⟨v, σ', F1, F2, e1, e2, e3, e4⟩, a, ha => by
    rw [e2] at ha
    rcases List.mem_append.mp ha with z | z
    · exact RpO.there e3 a z
    · exact RpS.there e4 a z
theorem RpS.len : ∀ {Γ : List (Option OT)} {σ : L2.St} {F : List Addr}, RpS K H B Γ σ F → σ.length = Γ.length
  | [], _, _, h => by rw [h.1]; rfl
  | none :: Γ, _, _, ⟨x, σ', e1, e2⟩ => by rw [e1, List.length_cons, List.length_cons, RpS.len e2]
  | some t :: Γ, _, _, ⟨v, σ', F1, F2, e1, e2, e3, e4⟩ => by rw [e1, List.length_cons, List.length_cons, RpS.len e4]
/-- one slot, and the others for what comes -/
theorem RpS.at : ∀ {Γ : List (Option OT)} {σ : L2.St} {F : List Addr} {i : Nat} {t : OT}, RpS K H B Γ σ F → Γ[i]? = some (some t) →
    ∃ v F1 F2 F3, σ[i]? = some (some v) ∧ F = F1 ++ (F2 ++ F3) ∧ RpO K H B t v F2 ∧
      (∀ {H' B' : Hp}, Ex B B' → (∀ a ∈ F1 ++ F3, ∀ o, H a = some o → H' a = some o) → ∀ (t' : OT) (G : List Addr), RpO K H' B' t' v G → RpS K H' B' (Γ.set i (some t')) σ (F1 ++ (G ++ F3))) ∧
      (∀ {H' B' : Hp}, Ex B B' → (∀ a ∈ F1 ++ F3, ∀ o, H a = some o → H' a = some o) → RpS K H' B' (Γ.set i none) σ (F1 ++ F3))
  | [], _, _, _, _, _, e => by simp at e
  | none :: Γ, _, _, 0, _, _, e => by simp at e
  | some t :: Γ, _, _, 0, t', ⟨v, σ', F1, F2, e1, e2, e3, e4⟩, e => by
    obtain rfl : t = t' := Option.some.inj (Option.some.inj e)
    refine ⟨v, [], F1, F2, by rw [e1]; rfl, e2, e3, fun eB k _ _ hr => ?_, fun eB k => ?_⟩
    · exact ⟨v, σ', _, F2, e1, rfl, hr, RpS.mono eB k e4⟩
    · exact ⟨some v, σ', e1, RpS.mono eB k e4⟩
  | none :: Γ, _, _, i + 1, t', ⟨x, σ', e1, e2⟩, e => by
    obtain ⟨v, F1, F2, F3, h1, h2, h3, h4, h5⟩ := RpS.at (i := i) e2 e
    refine ⟨v, F1, F2, F3, by rw [e1]; exact h1, h2, h3, fun eB k _ _ hr => ⟨x, σ', e1, h4 eB k _ _ hr⟩, fun eB k => ⟨x, σ', e1, h5 eB k⟩⟩
  | some t :: Γ, _, _, i + 1, t', ⟨v, σ', F1, F2, e1, e2, e3, e4⟩, e => by
    obtain ⟨v', G1, G2, G3, h1, h2, h3, h4, h5⟩ := RpS.at (i := i) e4 e
    refine ⟨v', F1 ++ G1, G2, G3, by rw [e1]; exact h1, by rw [e2, h2, List.append_assoc], h3, fun eB k _ _ hr => ?_, fun eB k => ?_⟩
    · refine ⟨v, σ', F1, _, e1, by rw [List.append_assoc], RpO.mono eB (fun a ha => k a (List.mem_append_left _ (List.mem_append_left _ ha))) e3, h4 eB (fun a ha => k a ?_) _ _ hr⟩
      rcases List.mem_append.mp ha with z | z
      · exact List.mem_append_left _ (List.mem_append_right _ z)
      · exact List.mem_append_right _ z
    · refine ⟨v, σ', F1, _, e1, by rw [List.append_assoc], RpO.mono eB (fun a ha => k a (List.mem_append_left _ (List.mem_append_left _ ha))) e3, h5 eB (fun a ha => k a ?_)⟩
      rcases List.mem_append.mp ha with z | z
      · exact List.mem_append_left _ (List.mem_append_right _ z)
      · exact List.mem_append_right _ z
theorem RpS.frz {Γ : List (Option OT)} {σ : L2.St} {F : List Addr} {i : Nat} {d : D} (h : RpS K H B Γ σ F) (e : Γ[i]? = some (some (.frz d))) : ∃ v, σ[i]? = some (some v) ∧ Rp K B d v := by
  obtain ⟨v, F1, F2, F3, h1, h2, h3, _⟩ := h.at e
  exact ⟨v, h1, h3.2⟩
/-- a slot is set -/
theorem RpS.set : ∀ {Γ : List (Option OT)} {σ : L2.St} {F : List Addr} {i : Nat} {t : OT} {v : V} {G : List Addr}, RpS K H B Γ σ F → i < Γ.length → RpO K H B t v G →
    ∃ F1 F2 F3, F = F1 ++ (F2 ++ F3) ∧ RpS K H B (Γ.set i (some t)) (σ.set i (some v)) (F1 ++ (G ++ F3))
  | [], _, _, _, _, _, _, _, e, _ => by simp at e
  | none :: Γ, _, _, 0, _, _, G, ⟨x, σ', e1, e2⟩, _, hr => ⟨[], [], _, rfl, by rw [e1]; exact ⟨_, σ', G, _, rfl, rfl, hr, e2⟩⟩
  | some t :: Γ, _, _, 0, _, _, G, ⟨v, σ', F1, F2, e1, e2, e3, e4⟩, _, hr => ⟨[], F1, F2, e2, by rw [e1]; exact ⟨_, σ', G, _, rfl, rfl, hr, e4⟩⟩
  | none :: Γ, _, _, i + 1, _, _, G, ⟨x, σ', e1, e2⟩, hi, hr => by
    obtain ⟨F1, F2, F3, h1, h2⟩ := RpS.set (i := i) e2 (by simpa using hi) hr
    exact ⟨F1, F2, F3, h1, by rw [e1]; exact ⟨x, _, rfl, h2⟩⟩
  | some t :: Γ, _, _, i + 1, _, _, G, ⟨v, σ', F1, F2, e1, e2, e3, e4⟩, hi, hr => by
    obtain ⟨G1, G2, G3, h1, h2⟩ := RpS.set (i := i) e4 (by simpa using hi) hr
    exact ⟨F1 ++ G1, G2, G3, by rw [e2, h1, List.append_assoc], by rw [e1]; exact ⟨v, _, F1, _, rfl, by rw [List.append_assoc], e3, h2⟩⟩
theorem RpOs.split : ∀ {ts us : List OT} {zs : List V} {G : List Addr}, RpOs K H B (ts ++ us) zs G → ∃ xs ys G1 G2, zs = xs ++ ys ∧ xs.length = ts.length ∧ G = G1 ++ G2 ∧ RpOs K H B ts xs G1 ∧ RpOs K H B us ys G2
  | [], _, zs, G, h => ⟨[], zs, [], G, rfl, rfl, rfl, ⟨rfl, rfl⟩, h⟩
  | t :: ts, _, _, _, ⟨y, ys, F1, F2, e1, e2, e3, e4⟩ => by
    obtain ⟨xs, ws, G1, G2, h1, h2, h3, h4, h5⟩ := RpOs.split (ts := ts) e4
    exact ⟨y :: xs, ws, F1 ++ G1, G2, by rw [e1, h1]; rfl, by rw [List.length_cons, List.length_cons, h2], by rw [e2, h3, List.append_assoc], ⟨y, xs, F1, G1, rfl, rfl, e3, h4⟩, h5⟩
theorem RpOs.app : ∀ {ts us : List OT} {xs ys : List V} {G1 G2 : List Addr}, RpOs K H B ts xs G1 → RpOs K H B us ys G2 → RpOs K H B (ts ++ us) (xs ++ ys) (G1 ++ G2)
  | [], _, _, _, _, _, h, h' => by rw [h.1, h.2]; exact h'
  | t :: ts, _, _, _, _, _, ⟨y, ys, F1, F2, e1, e2, e3, e4⟩, h' => ⟨y, _, F1, _, by rw [e1]; rfl, by rw [e2, List.append_assoc], e3, RpOs.app e4 h'⟩
theorem RpOs.len : ∀ {ts : List OT} {xs : List V} {G : List Addr}, RpOs K H B ts xs G → xs.length = ts.length
  | [], _, _, h => by rw [h.1]; rfl
  | t :: ts, _, _, ⟨y, ys, F1, F2, e1, e2, e3, e4⟩ => by rw [e1, List.length_cons, List.length_cons, RpOs.len e4]
theorem RpOs.one {t : OT} {v : V} {G : List Addr} (h : RpO K H B t v G) : RpOs K H B [t] [v] G := ⟨v, [], G, [], rfl, (List.append_nil _).symm, h, rfl, rfl⟩
theorem RpOs.frzs : ∀ {ds : List D} {xs : List V}, RpL K B ds xs → RpOs K H B (ds.map OT.frz) xs []
  | [], _, h => ⟨h, rfl⟩
  | d :: ds, _, ⟨y, ys, e1, e2, e3⟩ => ⟨y, ys, [], [], e1, rfl, ⟨rfl, e2⟩, RpOs.frzs e3⟩
theorem RpOs.frzs_inv : ∀ {ds : List D} {xs : List V} {G : List Addr}, RpOs K H B (ds.map OT.frz) xs G → G = [] ∧ RpL K B ds xs
  | [], _, _, h => ⟨h.2, h.1⟩
  | d :: ds, _, _, ⟨y, ys, F1, F2, e1, e2, e3, e4⟩ => by
    obtain ⟨h1, h2⟩ := RpOs.frzs_inv (ds := ds) e4
    refine ⟨by rw [e2, e3.1, h1]; rfl, y, ys, e1, e3.2, h2⟩
end

/-- the tables of code objects; there is no other table -/
structure TabOk (T : List (Addr × Str)) (H : Hp) : Prop where
  ts : LamX.Tabs T H
  all : ∀ a ps, H a = some (.tbl ps) → ∃ q, (a, q) ∈ T
/-- the spring is not frozen; no table is -/
structure BOk (Z : Wd) (B : Hp) : Prop where
  st : B Z.st = none
  cs : B Z.cs = none
  nt : ∀ a ps, B a ≠ some (.tbl ps)
/-- the state -/
structure AtB (Z : Wd) (E : Ent) (n : Nat) (Γ : List (Option OT)) (Δ : List OT) (σ : L2.St) (vs : List V) (H B : Hp) (F G : List Addr) : Prop where
  evo : Evo Z E H B
  sl : RpS Z.K H B Γ σ F
  tm : RpOs Z.K H B Δ vs G
  nd : ∀ a, F.count a + G.count a ≤ 1
  out : ∀ a, 0 < F.count a + G.count a → B a = none ∧ (E.H a = none ∨ a ∈ E.M) ∧ a ≠ Z.st ∧ a ≠ Z.cs
  str : StrOk Z n H
  bst : BOk Z B
  tab : TabOk Z.T H
  pin : PinS E.P σ
def At (Z : Wd) (E : Ent) (n : Nat) (Γ : List (Option OT)) (Δ : List OT) (σ : L2.St) (vs : List V) (H : Hp) : Prop := ∃ B F G, AtB Z E n Γ Δ σ vs H B F G

/-- what grows: all objects stay, new ones come, some of them frozen -/
structure Grow (H B H2 B2 : Hp) : Prop where
  ex : Ex H H2
  exB : Ex B B2
  new : ∀ a, B a = none → B2 a ≠ none → H a = none
  sub : Ex B2 H2
  nt : ∀ a ps, B2 a = some (.tbl ps) → B a = some (.tbl ps)
  tb : ∀ a ps, H2 a = some (.tbl ps) → H a = some (.tbl ps)
theorem Grow.refl {H B : Hp} (h : Ex B H) : Grow H B H B := ⟨Ex.refl H, Ex.refl B, fun _ h1 h2 => absurd h1 h2, h, fun _ _ e => e, fun _ _ e => e⟩
theorem Grow.trans {H B H1 B1 H2 B2 : Hp} (a : Grow H B H1 B1) (b : Grow H1 B1 H2 B2) : Grow H B H2 B2 :=
  ⟨a.ex.trans b.ex, a.exB.trans b.exB, fun x h1 h2 => by
    cases q : B1 x with
    | none => exact fresh_back a.ex (b.new x q h2)
    | some o => exact a.new x h1 (by rw [q]; exact fun z => by cases z), b.sub, fun x ps e => a.nt x ps (b.nt x ps e), fun x ps e => a.tb x ps (b.tb x ps e)⟩
/-- a new object, owned -/
theorem tb_new {H : Hp} {p : Addr} {o : HO} (ho : ∀ ps, o ≠ .tbl ps) (a : Addr) (ps : Array Value) (e : upd H p o a = some (.tbl ps)) : H a = some (.tbl ps) := by
  by_cases z : a = p
  · rw [z, upd_same] at e
    exact absurd (Option.some.inj e) (ho ps)
  · rw [upd_ne z] at e
    exact e
theorem Grow.own {H B : Hp} {p : Addr} {o : HO} (h : Ex B H) (hp : H p = none) (ho : ∀ ps, o ≠ .tbl ps := by intro _ z; cases z) : Grow H B (upd H p o) B := ⟨Ex.new hp, Ex.refl B, fun _ h1 h2 => absurd h1 h2, fun a u e => Ex.new hp a u (h a u e), fun _ _ e => e, tb_new ho⟩
/-- a new object, frozen -/
theorem Grow.frz {H B : Hp} {p : Addr} {o : HO} (h : Ex B H) (hp : H p = none) (ho : ∀ ps, o ≠ .tbl ps := by intro _ z; cases z) : Grow H B (upd H p o) (upd B p o) :=
  ⟨Ex.new hp, Ex.new (fresh_back h hp), fun a h1 h2 => by
    by_cases e : a = p
    · rw [e]; exact hp
    · rw [upd_ne e] at h2; exact absurd h1 h2, fun a u e => by
    by_cases z : a = p
    · rw [z, upd_same] at e; rw [z, upd_same]; exact e
    · rw [upd_ne z] at e; rw [upd_ne z]; exact h a u e, fun a ps e => by
    by_cases z : a = p
    · rw [z, upd_same] at e
      exact absurd (Option.some.inj e) (ho ps)
    · rw [upd_ne z] at e
      exact e, tb_new ho⟩

section
variable {Z : Wd} {E : Ent} {n : Nat} {Γ : List (Option OT)} {Δ : List OT} {σ : L2.St} {vs : List V} {H B H2 B2 : Hp} {F G : List Addr}
theorem AtB.thereF (h : AtB Z E n Γ Δ σ vs H B F G) {a : Addr} (ha : 0 < F.count a + G.count a) : ∃ o, H a = some o ∧ ∀ ps, o ≠ .tbl ps := by
  by_cases hF : 0 < F.count a
  · exact h.sl.there a (List.count_pos_iff.mp hF)
  · exact h.tm.there a (List.count_pos_iff.mp (by omega))
/-- what is not in the heap was not there at the entry -/
theorem AtB.fresh (h : AtB Z E n Γ Δ σ vs H B F G) {a : Addr} (ha : H a = none) : E.H a = none ∨ a ∈ E.M := by
  by_cases hM : a ∈ E.M
  · exact .inr hM
  · left
    cases q : E.H a with
    | none => rfl
    | some o =>
      by_cases h1 : a = Z.st
      · rw [h1] at ha; exact absurd ha h.str.st
      · by_cases h2 : a = Z.cs
        · rw [h2] at ha; exact absurd ha h.str.cs
        · cases o with
          | tbl ps =>
            obtain ⟨ps', e⟩ := h.evo.tb a ps q
            rw [ha] at e; cases e
          | _ =>
            have e := h.evo.ex a _ q hM h1 h2 (fun ps z => by cases z)
            rw [ha] at e; cases e
theorem tabs_ex {T : List (Addr × Str)} {H H2 : Hp} (t : TabOk T H) (e : Ex H H2) (tb : ∀ a ps, H2 a = some (.tbl ps) → H a = some (.tbl ps)) : TabOk T H2 := ⟨t.ts.ext e, fun a ps q => t.all a ps (tb a ps q)⟩
theorem AtB.grow (h : AtB Z E n Γ Δ σ vs H B F G) (g : Grow H B H2 B2) : AtB Z E n Γ Δ σ vs H2 B2 F G where
  evo := ⟨fun a o e m h1 h2 h3 => g.ex a o (h.evo.ex a o e m h1 h2 h3), fun a ps e => by
      obtain ⟨ps', q⟩ := h.evo.tb a ps e
      exact ⟨ps', g.ex a _ q⟩, h.evo.exB.trans g.exB, fun a h1 h2 => by
      cases q : B a with
      | none => exact h.fresh (g.new a q h2)
      | some o => exact h.evo.new a h1 (by rw [q]; exact fun z => by cases z), g.sub⟩
  sl := RpS.mono g.exB (fun a _ o e => g.ex a o e) h.sl
  tm := RpOs.mono g.exB (fun a _ o e => g.ex a o e) h.tm
  nd := h.nd
  out := fun a ha => by
    obtain ⟨h1, h2⟩ := h.out a ha
    refine ⟨?_, h2⟩
    cases q : B2 a with
    | none => rfl
    | some o =>
      have z := g.new a h1 (by rw [q]; exact fun z => by cases z)
      obtain ⟨u, e, _⟩ := h.thereF ha
      rw [z] at e; cases e
  str := h.str.ex g.ex
  bst := by
    refine ⟨?_, ?_, fun a ps e => h.bst.nt a ps (g.nt a ps e)⟩
    · cases q : B2 Z.st with
      | none => rfl
      | some o => exact absurd (g.new _ h.bst.1 (by rw [q]; exact fun z => by cases z)) h.str.st
    · cases q : B2 Z.cs with
      | none => rfl
      | some o => exact absurd (g.new _ h.bst.2 (by rw [q]; exact fun z => by cases z)) h.str.cs
  tab := tabs_ex h.tab g.ex g.tb
  pin := h.pin
/-- a new temporary; its own nodes are new -/
theorem AtB.push (h : AtB Z E n Γ Δ σ vs H B F G) (g : Grow H B H2 B2) {r : OT} {v : V} {G1 : List Addr} (hr : RpO Z.K H2 B2 r v G1) (hf : ∀ a, 0 < G1.count a → H a = none ∧ B2 a = none) (hn : ∀ a, G1.count a ≤ 1) :
    AtB Z E n Γ (r :: Δ) σ (v :: vs) H2 B2 F (G1 ++ G) := by
  have k := h.grow g
  refine ⟨k.evo, k.sl, ⟨v, vs, G1, G, rfl, rfl, hr, k.tm⟩, fun a => ?_, fun a ha => ?_, k.str, k.bst, k.tab, k.pin⟩
  · rw [List.count_append]
    by_cases q : 0 < G1.count a
    · have z := (hf a q).1
      have : ¬ 0 < F.count a + G.count a := fun y => by
        obtain ⟨u, e, _⟩ := h.thereF y
        rw [z] at e; cases e
      have := hn a
      omega
    · have := h.nd a
      omega
  · rw [List.count_append] at ha
    by_cases q : 0 < G1.count a
    · obtain ⟨z1, z2⟩ := hf a q
      refine ⟨z2, h.fresh z1, fun y => ?_, fun y => ?_⟩
      · rw [y] at z1; exact absurd z1 h.str.st
      · rw [y] at z1; exact absurd z1 h.str.cs
    · exact k.out a (by omega)
/-- a frozen temporary -/
theorem AtB.pushF (h : AtB Z E n Γ Δ σ vs H B F G) (g : Grow H B H2 B2) {d : D} {v : V} (hr : Rp Z.K B2 d v) : AtB Z E n Γ (.frz d :: Δ) σ (v :: vs) H2 B2 F G :=
  h.push g (G1 := []) ⟨rfl, hr⟩ (fun a z => by simp at z) (fun a => by simp)
theorem AtB.pushV (h : AtB Z E n Γ Δ σ vs H B F G) {d : D} {v : V} (hr : Rp Z.K B d v) : AtB Z E n Γ (.frz d :: Δ) σ (v :: vs) H B F G :=
  h.pushF (Grow.refl h.evo.sub) hr
/-- temporaries are let go -/
theorem AtB.pop {rs : List OT} {xs : List V} (h : AtB Z E n Γ (rs ++ Δ) σ (xs ++ vs) H B F G) (hl : xs.length = rs.length) : ∃ G', (∀ a, G'.count a ≤ G.count a) ∧ AtB Z E n Γ Δ σ vs H B F G' := by
  obtain ⟨ys, zs, G1, G2, e1, e2, e3, e4, e5⟩ := h.tm.split
  obtain ⟨rfl, rfl⟩ := List.append_inj e1 (hl.trans e2.symm)
  have le : ∀ a, G2.count a ≤ G.count a := fun a => by rw [e3, List.count_append]; omega
  exact ⟨G2, le, h.evo, h.sl, e5, fun a => by have := h.nd a; have := le a; omega, fun a ha => h.out a (by have := le a; omega), h.str, h.bst, h.tab, h.pin⟩
theorem AtB.pop1 {r : OT} {x : V} (h : AtB Z E n Γ (r :: Δ) σ (x :: vs) H B F G) : ∃ G', AtB Z E n Γ Δ σ vs H B F G' := by
  obtain ⟨G', _, q⟩ := AtB.pop (rs := [r]) (xs := [x]) h rfl
  exact ⟨G', q⟩
/-- the first temporary goes behind some others -/
theorem AtB.rot {r : OT} {x : V} {rs : List OT} {xs : List V} (h : AtB Z E n Γ (rs ++ r :: Δ) σ (xs ++ x :: vs) H B F G) (hl : xs.length = rs.length) : ∃ G', AtB Z E n Γ (r :: rs ++ Δ) σ (x :: xs ++ vs) H B F G' := by
  obtain ⟨ys, zs, G1, G2, e1, e2, e3, e4, e5⟩ := h.tm.split
  obtain ⟨rfl, rfl⟩ := List.append_inj e1 (hl.trans e2.symm)
  obtain ⟨y, ys, F1, F2, q1, q2, q3, q4⟩ := e5
  obtain ⟨rfl, rfl⟩ := List.cons.inj q1
  refine ⟨F1 ++ (G1 ++ F2), h.evo, h.sl, ⟨x, _, F1, _, rfl, rfl, q3, RpOs.app e4 q4⟩, fun a => ?_, fun a ha => h.out a ?_, h.str, h.bst, h.tab, h.pin⟩
  · have := h.nd a
    rw [e3, q2] at this
    simp only [List.count_append] at this ⊢
    omega
  · rw [e3, q2]
    simp only [List.count_append] at ha ⊢
    omega
/-- nodes are frozen: all that is asked -/
theorem AtB.frzG (h : AtB Z E n Γ Δ σ vs H B F G) {G1 : List Addr} (hG : ∀ a, 0 < G1.count a → 0 < F.count a + G.count a) {Γ' : List (Option OT)} {Δ' : List OT} {vs' : List V} {F' G' : List Addr}
    (s : RpS Z.K H (frzB H B G1) Γ' σ F') (t : RpOs Z.K H (frzB H B G1) Δ' vs' G') (hl : ∀ a, F'.count a + G'.count a ≤ F.count a + G.count a) (hd : ∀ a, 0 < F'.count a + G'.count a → G1.count a = 0) :
    AtB Z E n Γ' Δ' σ vs' H (frzB H B G1) F' G' where
  evo := ⟨h.evo.ex, h.evo.tb, h.evo.exB.trans (frzB_ex fun a ha => (h.out a (hG a (List.count_pos_iff.mpr ha))).1), fun a h1 h2 => by
    by_cases q : a ∈ G1
    · exact (h.out a (hG a (List.count_pos_iff.mpr q))).2.1
    · rw [frzB_out q] at h2
      exact h.evo.new a h1 h2, frzB_sub h.evo.sub⟩
  sl := s
  tm := t
  nd := fun a => by have := h.nd a; have := hl a; omega
  out := fun a ha => by
    obtain ⟨h1, h2⟩ := h.out a (by have := hl a; omega)
    refine ⟨?_, h2⟩
    rw [frzB_out (fun z => by have := List.count_pos_iff.mpr z; have := hd a ha; omega)]
    exact h1
  str := h.str
  bst := by
    refine ⟨?_, ?_, fun a ps e => ?_⟩
    · rw [frzB_out (fun z => (h.out _ (hG _ (List.count_pos_iff.mpr z))).2.2.1 rfl)]
      exact h.bst.1
    · rw [frzB_out (fun z => (h.out _ (hG _ (List.count_pos_iff.mpr z))).2.2.2 rfl)]
      exact h.bst.2
    · by_cases q : a ∈ G1
      · rw [frzB_in q] at e
        obtain ⟨u, e1, e2⟩ := h.thereF (hG _ (List.count_pos_iff.mpr q))
        rw [e] at e1
        exact e2 ps (Option.some.inj e1).symm
      · rw [frzB_out q] at e
        exact h.bst.nt a ps e
  tab := h.tab
  pin := h.pin
/-- a temporary is frozen -/
theorem AtB.freeze1 {r : OT} {x : V} (h : AtB Z E n Γ (r :: Δ) σ (x :: vs) H B F G) : ∃ B' G', Ex B B' ∧ Rp Z.K B' r.d x ∧ AtB Z E n Γ (.frz r.d :: Δ) σ (x :: vs) H B' F G' := by
  obtain ⟨y, ys, G1, G2, q1, q2, q3, q4⟩ := h.tm
  obtain ⟨rfl, rfl⟩ := List.cons.inj q1
  have hG : ∀ a, 0 < G1.count a → 0 < F.count a + G.count a := fun a ha => by rw [q2, List.count_append]; omega
  have eB : Ex B (frzB H B G1) := frzB_ex fun a ha => (h.out a (hG a (List.count_pos_iff.mpr ha))).1
  have rp : Rp Z.K (frzB H B G1) r.d x := RpO.freeze eB (fun a ha => frzB_in ha) q3
  refine ⟨frzB H B G1, G2, eB, rp, h.frzG hG (RpS.mono eB (fun _ _ _ e => e) h.sl) ⟨x, vs, [], G2, rfl, rfl, ⟨rfl, rp⟩, RpOs.mono eB (fun _ _ _ e => e) q4⟩ (fun a => ?_) fun a ha => ?_⟩
  · rw [q2, List.count_append]; omega
  · have := h.nd a
    rw [q2, List.count_append] at this
    omega
/-- a slot is frozen -/
theorem AtB.freezeS {i : Nat} {t : OT} (h : AtB Z E n Γ Δ σ vs H B F G) (e : Γ[i]? = some (some t)) : ∃ B' F' v, Ex B B' ∧ σ[i]? = some (some v) ∧ Rp Z.K B' t.d v ∧ AtB Z E n (Γ.set i (some (.frz t.d))) Δ σ vs H B' F' G := by
  obtain ⟨v, F1, F2, F3, h1, h2, h3, h4, h5⟩ := h.sl.at e
  have hG : ∀ a, 0 < F2.count a → 0 < F.count a + G.count a := fun a ha => by rw [h2]; simp only [List.count_append]; omega
  have eB : Ex B (frzB H B F2) := frzB_ex fun a ha => (h.out a (hG a (List.count_pos_iff.mpr ha))).1
  have rp : Rp Z.K (frzB H B F2) t.d v := RpO.freeze eB (fun a ha => frzB_in ha) h3
  refine ⟨frzB H B F2, F1 ++ ([] ++ F3), v, eB, h1, rp, h.frzG hG (h4 eB (fun _ _ _ e => e) _ _ ⟨rfl, rp⟩) (RpOs.mono eB (fun _ _ _ e => e) h.tm) (fun a => ?_) fun a ha => ?_⟩
  · rw [h2]; simp only [List.count_append, List.count_nil]; omega
  · have := h.nd a
    rw [h2] at this
    simp only [List.count_append, List.count_nil] at this ha
    omega
/-- a slot's tree becomes a temporary -/
theorem AtB.move {i : Nat} {t : OT} (h : AtB Z E n Γ Δ σ vs H B F G) (e : Γ[i]? = some (some t)) : ∃ F' G' v, σ[i]? = some (some v) ∧ AtB Z E n (Γ.set i none) (t :: Δ) σ (v :: vs) H B F' G' := by
  obtain ⟨v, F1, F2, F3, h1, h2, h3, h4, h5⟩ := h.sl.at e
  refine ⟨F1 ++ F3, F2 ++ G, v, h1, h.evo, h5 (Ex.refl B) (fun _ _ _ e => e), ⟨v, vs, F2, G, rfl, rfl, h3, h.tm⟩, fun a => ?_, fun a ha => h.out a ?_, h.str, h.bst, h.tab, h.pin⟩
  · have := h.nd a
    rw [h2] at this
    simp only [List.count_append] at this ⊢
    omega
  · rw [h2]
    simp only [List.count_append] at ha ⊢
    omega
/-- a temporary is stored into a slot -/
theorem AtB.store {i : Nat} {r : OT} {x : V} (h : AtB Z E n Γ (r :: Δ) σ (x :: vs) H B F G) (hi : i < Γ.length) (hP : E.P.getD i none = none) : ∃ F' G', AtB Z E n (Γ.set i (some r)) Δ (σ.set i (some x)) vs H B F' G' := by
  obtain ⟨y, ys, G1, G2, q1, q2, q3, q4⟩ := h.tm
  obtain ⟨rfl, rfl⟩ := List.cons.inj q1
  obtain ⟨F1, F2, F3, e1, e2⟩ := h.sl.set hi q3
  refine ⟨F1 ++ (G1 ++ F3), G2, h.evo, e2, q4, fun a => ?_, fun a ha => h.out a ?_, h.str, h.bst, h.tab, h.pin.set hP⟩
  · have := h.nd a
    rw [e1, q2] at this
    simp only [List.count_append] at this ⊢
    omega
  · rw [e1, q2]
    simp only [List.count_append] at ha ⊢
    omega
theorem AtB.len (h : AtB Z E n Γ Δ σ vs H B F G) : σ.length = Γ.length := h.sl.len
/-- the budget may be told less -/
theorem AtB.less {m : Nat} (h : AtB Z E n Γ Δ σ vs H B F G) (hm : m ≤ n) : AtB Z E m Γ Δ σ vs H B F G := ⟨h.evo, h.sl, h.tm, h.nd, h.out, h.str.le hm, h.bst, h.tab, h.pin⟩
/-- temporaries become a new list's items -/
theorem AtB.mkList {rs : List OT} {xs : List V} {p : Addr} (h : AtB Z E n Γ (rs ++ Δ) σ (xs ++ vs) H B F G) (hl : xs.length = rs.length) (hp : H p = none) : ∃ G', AtB Z E n Γ (.ol rs :: Δ) σ (.ref p :: vs) (upd H p (.lst xs)) B F G' := by
  have k := h.grow (Grow.own (o := .lst xs) h.evo.sub hp)
  obtain ⟨ys, zs, G1, G2, e1, e2, e3, e4, e5⟩ := k.tm.split
  obtain ⟨rfl, rfl⟩ := List.append_inj e1 (hl.trans e2.symm)
  have np : ¬ 0 < F.count p + G.count p := fun z => by
    obtain ⟨u, e, _⟩ := h.thereF z
    rw [hp] at e; cases e
  refine ⟨p :: G1 ++ G2, k.evo, k.sl, ⟨.ref p, vs, p :: G1, G2, rfl, rfl, ⟨p, xs, G1, rfl, rfl, upd_same, e4⟩, e5⟩, fun a => ?_, fun a ha => ?_, k.str, k.bst, k.tab, k.pin⟩
  · have := k.nd a
    rw [e3] at this np
    simp only [List.count_append, List.count_cons] at this np ⊢
    by_cases q : p = a
    · subst q
      simp
      omega
    · have : (p == a) = false := by simpa using q
      simp [this]
      omega
  · by_cases q : p = a
    · subst q
      refine ⟨fresh_back h.evo.sub hp, h.fresh hp, fun y => ?_, fun y => ?_⟩
      · rw [y] at hp; exact absurd hp h.str.st
      · rw [y] at hp; exact absurd hp h.str.cs
    · refine k.out a ?_
      have : (p == a) = false := by simpa using q
      rw [e3]
      simp only [List.count_append, List.count_cons, this] at ha ⊢
      simp at ha
      omega
theorem AtB.mkTup {rs : List OT} {xs : List V} {p : Addr} (h : AtB Z E n Γ (rs ++ Δ) σ (xs ++ vs) H B F G) (hl : xs.length = rs.length) (hp : H p = none) : ∃ G', AtB Z E n Γ (.ot rs :: Δ) σ (.ref p :: vs) (upd H p (.tup xs)) B F G' := by
  have k := h.grow (Grow.own (o := .tup xs) h.evo.sub hp)
  obtain ⟨ys, zs, G1, G2, e1, e2, e3, e4, e5⟩ := k.tm.split
  obtain ⟨rfl, rfl⟩ := List.append_inj e1 (hl.trans e2.symm)
  have np : ¬ 0 < F.count p + G.count p := fun z => by
    obtain ⟨u, e, _⟩ := h.thereF z
    rw [hp] at e; cases e
  refine ⟨p :: G1 ++ G2, k.evo, k.sl, ⟨.ref p, vs, p :: G1, G2, rfl, rfl, ⟨p, xs, G1, rfl, rfl, upd_same, e4⟩, e5⟩, fun a => ?_, fun a ha => ?_, k.str, k.bst, k.tab, k.pin⟩
  · have := k.nd a
    rw [e3] at this np
    simp only [List.count_append, List.count_cons] at this np ⊢
    by_cases q : p = a
    · subst q
      simp
      omega
    · have : (p == a) = false := by simpa using q
      simp [this]
      omega
  · by_cases q : p = a
    · subst q
      refine ⟨fresh_back h.evo.sub hp, h.fresh hp, fun y => ?_, fun y => ?_⟩
      · rw [y] at hp; exact absurd hp h.str.st
      · rw [y] at hp; exact absurd hp h.str.cs
    · refine k.out a ?_
      have : (p == a) = false := by simpa using q
      rw [e3]
      simp only [List.count_append, List.count_cons, this] at ha ⊢
      simp at ha
      omega
end
end DL

set_option Elab.async false
set_option linter.all false
set_option maxRecDepth 100000
set_option maxHeartbeats 4000000
/-! DLC: what a body does, as weakest conditions over data. -/
namespace DL
open PySem PySem.Spec PyProof.Rows L2 Evl

/-! ### the widest readings -/
def cE (X : Cx) (e : Expr) : TE := fun σ H Q => ∃ t, PE X e t ∧ t σ H Q
def cT (X : Cx) (e : Expr) : TT := fun σ H Q => ∃ t, PT X e t ∧ t σ H Q
def cW (X : Cx) (e : Expr) : TT := fun σ H Q => ∃ t, PW X e t ∧ t σ H Q
def cA (X : Cx) (es : List Expr) : TA := fun σ H Q => ∃ t, PA X es t ∧ t σ H Q
def cS (X : Cx) (st : Stmt) : TS := fun D σ H => ∃ t, PS X st t ∧ t D σ H
def cSs (X : Cx) (st : List Stmt) : TS := fun D σ H => ∃ t, PSs X st t ∧ t D σ H
def cB (X : Cx) (op : Operator) : R2 := fun x y H Q => ∃ r, OpR X (binaryOp op) r ∧ r x y H Q
def cC (X : Cx) (op : CmpOp) : R2 := fun x y H Q => ∃ r, OpR X (compareOp op) r ∧ r x y H Q
def cI (X : Cx) (op : Operator) : TIp := fun x y H Q => ∃ r, PIp X op r ∧ r x y H Q
def cX (X : Cx) : R2 := fun x y H Q => ∃ r, IxR X r ∧ r x y H Q
section
variable {X : Cx}
theorem pe_c {e : Expr} : PE X e (cE X e) := ⟨fun pins s σ H Q I ⟨t, ht, h⟩ => ht.run pins s σ H Q I h⟩
theorem pt_c {e : Expr} : PT X e (cT X e) := ⟨fun pins s σ H Q I ⟨t, ht, h⟩ => ht.run pins s σ H Q I h⟩
theorem pw_c {e : Expr} : PW X e (cW X e) := ⟨fun whole pins s σ H Q I ⟨t, ht, h⟩ => ht.run whole pins s σ H Q I h⟩
theorem pa_c {es : List Expr} : PA X es (cA X es) := ⟨fun pos pins s σ H Q I ⟨t, ht, h⟩ => ht.run pos pins s σ H Q I h⟩
theorem ps_c {st : Stmt} : PS X st (cS X st) := ⟨fun pins s σ H D I ⟨t, ht, h⟩ => ht.run pins s σ H D I h⟩
theorem pss_c {st : List Stmt} : PSs X st (cSs X st) := ⟨fun pins s σ H D I ⟨t, ht, h⟩ => ht.run pins s σ H D I h⟩
theorem op_cB {op : Operator} : OpR X (binaryOp op) (cB X op) := fun pins s σ H x y v u Q I rx ry ⟨r, hr, h⟩ => hr pins s σ H x y v u Q I rx ry h
theorem op_cC {op : CmpOp} : OpR X (compareOp op) (cC X op) := fun pins s σ H x y v u Q I rx ry ⟨r, hr, h⟩ => hr pins s σ H x y v u Q I rx ry h
theorem ip_c {op : Operator} : PIp X op (cI X op) := fun pins s σ H x y v u Q I rx ry ⟨r, hr, h⟩ => hr pins s σ H x y v u Q I rx ry h
theorem ix_c : IxR X (cX X) := fun a b pins s σ H x y v u Q I rx ry ⟨r, hr, h⟩ hs => hr a b pins s σ H x y v u Q I rx ry h hs
end

/-- an exception's own dict: its fields by name -/
def ExD (K : PySem.W.Frag) (H B : Hp) (d : Option Addr) (ns : List Str) (ds : List D) : Prop :=
  (ns = [] ∧ ds = [] ∧ d = none) ∨ ∃ dx xs, d = some dx ∧ H dx = some (.xd (ns.zip xs)) ∧ ns.length = xs.length ∧ RpL K B ds xs
abbrev XPost := Nat → List (Option OT) → Addr → List Str → List D → Prop
def XOk (Z : Wd) (E : Ent) (XP : XPost) (W : WX) : Prop := ∀ n Γ C ns ds d σ H B F, AtB Z E n Γ [] σ [] H B F [] → ExD Z.K H B d ns ds → XP n Γ C ns ds → W (.ref C) d σ H
/-- where a body stands -/
structure Sit where
  X : Cx
  st : Addr
  cs : Addr
  T : List (Addr × Str)
  E : Ent
  W : WX
  XP : XPost
  tk : Takes X W
  xo : XOk ⟨X.K, st, cs, T⟩ E XP W
  po : PassesOwn (model X.prog X.w) X.A X.env X.xe
abbrev Sit.Z (S : Sit) : Wd := ⟨S.X.K, S.st, S.cs, S.T⟩
abbrev Sit.At (S : Sit) (n : Nat) (Γ : List (Option OT)) (Δ : List OT) (σ : L2.St) (vs : List V) (H : Hp) : Prop := DL.At S.Z S.E n Γ Δ σ vs H
abbrev Slots := List (Option OT)

def HE (S : Sit) (e : Expr) (n : Nat) (Γ : Slots) (K : Nat → Slots → OT → Prop) : Prop :=
  ∀ Δ σ vs H Q, S.At n Γ Δ σ vs H → (∀ n' Γ' r v H2, K n' Γ' r → S.At n' Γ' (r :: Δ) σ (v :: vs) H2 → Q v H2) → cE S.X e σ H Q
def HT (S : Sit) (e : Expr) (n : Nat) (Γ : Slots) (K : Nat → Slots → Bool → Prop) : Prop :=
  ∀ Δ σ vs H Q, S.At n Γ Δ σ vs H → (∀ n' Γ' b H2, K n' Γ' b → S.At n' Γ' Δ σ vs H2 → Q b H2) → cT S.X e σ H Q
/-- a test in an and, an or -/
def HW (S : Sit) (e : Expr) (n : Nat) (Γ : Slots) (K : Nat → Slots → Bool → Prop) : Prop :=
  ∀ Δ σ vs H Q, S.At n Γ Δ σ vs H → (∀ n' Γ' b H2, K n' Γ' b → S.At n' Γ' Δ σ vs H2 → Q b H2) → cW S.X e σ H Q
def HA (S : Sit) (es : List Expr) (n : Nat) (Γ : Slots) (K : Nat → Slots → List OT → Prop) : Prop :=
  ∀ Δ σ vs H Q, S.At n Γ Δ σ vs H → (∀ n' Γ' rs xs H2, K n' Γ' rs → xs.length = rs.length → S.At n' Γ' (rs ++ Δ) σ (xs ++ vs) H2 → Q xs H2) → cA S.X es σ H Q
/-- an operation on two temporaries -/
def HO2 (S : Sit) (c : R2) (n : Nat) (Γ : Slots) (x y : OT) (K : Nat → Slots → OT → Prop) : Prop :=
  ∀ Δ σ v w vs H Q, S.At n Γ (y :: x :: Δ) σ (w :: v :: vs) H → (∀ n' Γ' z u H2, K n' Γ' z → S.At n' Γ' (z :: Δ) σ (u :: vs) H2 → Q u H2) → c v w H Q
structure Post where
  nx : Nat → Slots → Prop
  rt : Nat → Slots → OT → Prop
  bk : Nat → Slots → Prop := fun _ _ => False
  ct : Nat → Slots → Prop := fun _ _ => False
structure Met (S : Sit) (P : Post) (Δ : List OT) (vs : List V) (D : Ends) : Prop where
  nx : ∀ n Γ σ H, P.nx n Γ → S.At n Γ Δ σ vs H → D.nx σ H
  rt : ∀ n Γ r σ v H, P.rt n Γ r → S.At n Γ (r :: Δ) σ (v :: vs) H → D.rt v H
  bk : ∀ n Γ σ H, P.bk n Γ → S.At n Γ Δ σ vs H → D.bk σ H
  ct : ∀ n Γ σ H, P.ct n Γ → S.At n Γ Δ σ vs H → D.ct σ H
def HS (S : Sit) (st : Stmt) (n : Nat) (Γ : Slots) (P : Post) : Prop := ∀ Δ σ vs H D, S.At n Γ Δ σ vs H → Met S P Δ vs D → cS S.X st D σ H
def HSs (S : Sit) (st : List Stmt) (n : Nat) (Γ : Slots) (P : Post) : Prop := ∀ Δ σ vs H D, S.At n Γ Δ σ vs H → Met S P Δ vs D → cSs S.X st D σ H

section
variable {S : Sit} {n : Nat} {Γ : Slots} {K : Nat → Slots → OT → Prop} {KB : Nat → Slots → Bool → Prop} {pos p p2 : Pos}

/-! ### names, constants -/
theorem he_var (i : Nat) {x : Str} {d : D} (hN : S.X.N[i]? = some x) (hv : Vis S.X.env.scope x) (he : Γ[i]? = some (some (.frz d))) (k : K n Γ (.frz d))
    (hd : (x == ("__debug__" : Str)) = false := by decide) (hcd : (x == ("__classdict__" : Str)) = false := by decide) : HE S (.Name x pos) n Γ K := by
  intro Δ σ vs H Q ⟨B, F, G, h⟩ q
  obtain ⟨v, h1, h2⟩ := h.sl.frz he
  exact ⟨_, pe_var hN hv hd hcd, v, h1, q n Γ _ v H k ⟨B, F, G, h.pushV h2⟩⟩
/-- an owned slot that is read is frozen -/
theorem he_take (i : Nat) {x : Str} {t : OT} (hN : S.X.N[i]? = some x) (hv : Vis S.X.env.scope x) (he : Γ[i]? = some (some t)) (k : K n (Γ.set i (some (.frz t.d))) (.frz t.d))
    (hd : (x == ("__debug__" : Str)) = false := by decide) (hcd : (x == ("__classdict__" : Str)) = false := by decide) : HE S (.Name x pos) n Γ K := by
  intro Δ σ vs H Q ⟨B, F, G, h⟩ q
  obtain ⟨B', F', v, _, h1, h2, h3⟩ := h.freezeS he
  exact ⟨_, pe_var hN hv hd hcd, v, h1, q n _ _ v H k ⟨B', F', G, h3.pushV h2⟩⟩
/-- an owned slot that is given away -/
theorem he_move (i : Nat) {x : Str} {t : OT} (hN : S.X.N[i]? = some x) (hv : Vis S.X.env.scope x) (he : Γ[i]? = some (some t)) (k : K n (Γ.set i none) t)
    (hd : (x == ("__debug__" : Str)) = false := by decide) (hcd : (x == ("__classdict__" : Str)) = false := by decide) : HE S (.Name x pos) n Γ K := by
  intro Δ σ vs H Q ⟨B, F, G, h⟩ q
  obtain ⟨F', G', v, h1, h2⟩ := h.move he
  exact ⟨_, pe_var hN hv hd hcd, v, h1, q n _ _ v H k ⟨B, F', G', h2⟩⟩
theorem he_con {e : Expr} {v : V} {d : D} (ht : PE S.X e (tC v)) (hr : ∀ B, Rp S.X.K B d v) (k : K n Γ (.frz d)) : HE S e n Γ K := by
  intro Δ σ vs H Q ⟨B, F, G, h⟩ q
  exact ⟨_, ht, q n Γ _ v H k ⟨B, F, G, h.pushV (hr B)⟩⟩
theorem he_int {i : Int} {j} (k : K n Γ (.frz (.int i))) : HE S (.Constant (.int i) j pos) n Γ K := he_con pe_int (fun _ => by exact rfl) k
theorem he_bl {b : Bool} {j} (k : K n Γ (.frz (.bl b))) : HE S (.Constant (.bool b) j pos) n Γ K := he_con pe_bl (fun _ => by exact rfl) k
theorem he_non {j} (k : K n Γ (.frz .non)) : HE S (.Constant .none j pos) n Γ K := he_con pe_non (fun _ => by exact rfl) k
theorem he_str {x : Str} {j} (k : K n Γ (.frz (.str x))) : HE S (.Constant (.str x) j pos) n Γ K := he_con pe_str (fun _ => by exact rfl) k
theorem he_gint {x : Str} {i : Int} {t : Tok} (hm : S.X.mg x = some (.int i t)) (hg : Gl S.X x) (k : K n Γ (.frz (.int i))) (hd : (x == ("__debug__" : Str)) = false := by decide) : HE S (.Name x pos) n Γ K :=
  he_con (pe_glob (v := .int i) hg hm ⟨t, rfl⟩ hd) (fun _ => by exact rfl) k
theorem he_gstr {x : Str} {i : Str} {t : Tok} (hm : S.X.mg x = some (.str i t)) (hg : Gl S.X x) (k : K n Γ (.frz (.str i))) (hd : (x == ("__debug__" : Str)) = false := by decide) : HE S (.Name x pos) n Γ K :=
  he_con (pe_glob (v := .str i) hg hm ⟨t, rfl⟩ hd) (fun _ => by exact rfl) k

/-! ### operators -/
theorem he_bin {a b : Expr} {op : Operator} (h : HE S a n Γ fun n1 Γ1 x => HE S b n1 Γ1 fun n2 Γ2 y => HO2 S (cB S.X op) n2 Γ2 x y K) : HE S (.BinOp a op b pos) n Γ K := by
  intro Δ σ vs H Q at0 q
  exact ⟨_, pe_op op_cB pe_c pe_c, h Δ σ vs H _ at0 fun n1 Γ1 x v H1 hx at1 => hx _ σ _ H1 _ at1 fun n2 Γ2 y w H2 hy at2 => hy Δ σ v w vs H2 Q at2 q⟩
theorem he_cmp {a b : Expr} {op : CmpOp} (h : HE S a n Γ fun n1 Γ1 x => HE S b n1 Γ1 fun n2 Γ2 y => HO2 S (cC S.X op) n2 Γ2 x y K)
    (hm : behindInMarks op b = false := by first | exact nomark _ | rfl) : HE S (.Compare a [op] [b] pos) n Γ K := by
  intro Δ σ vs H Q at0 q
  exact ⟨_, pe_cmpR op_cC pe_c pe_c hm, h Δ σ vs H _ at0 fun n1 Γ1 x v H1 hx at1 => hx _ σ _ H1 _ at1 fun n2 Γ2 y w H2 hy at2 => hy Δ σ v w vs H2 Q at2 q⟩
/-- a test by a comparison -/
theorem ht_cmp {a b : Expr} {op : CmpOp} (h : HE S a n Γ fun n1 Γ1 x => HE S b n1 Γ1 fun n2 Γ2 y => HO2 S (cC S.X op) n2 Γ2 x y fun n3 Γ3 r => ∃ b, r = .frz (.bl b) ∧ KB n3 Γ3 b)
    (hm : behindInMarks op b = false := by first | exact nomark _ | rfl) : HT S (.Compare a [op] [b] pos) n Γ KB := by
  intro Δ σ vs H Q at0 q
  refine ⟨_, pt_cmpR op_cC pe_c pe_c hm, h Δ σ vs H _ at0 fun n1 Γ1 x v H1 hx at1 => hx _ σ _ H1 _ at1 fun n2 Γ2 y w H2 hy at2 => hy Δ σ v w vs H2 _ at2 fun n3 Γ3 r u H3 hr at3 => ?_⟩
  obtain ⟨b, rfl, hk⟩ := hr
  obtain ⟨B, F, G, h3⟩ := at3
  have e : u = .bl b := by
    obtain ⟨y', ys, F1, F2, e1, e2, e3, e4⟩ := h3.tm
    obtain ⟨rfl, rfl⟩ := List.cons.inj e1
    exact e3.2
  obtain ⟨G', h4⟩ := h3.pop1
  exact ⟨b, e, q n3 Γ3 b H3 hk ⟨B, F, G', h4⟩⟩
theorem At.val {Δ : List OT} {σ : L2.St} {vs : List V} {H : Hp} {d : D} {v : V} {Z : Wd} {E : Ent} (h : DL.At Z E n Γ (.frz d :: Δ) σ (v :: vs) H) : ∃ B, Ex B H ∧ Rp Z.K B d v := by
  obtain ⟨B, F, G, h⟩ := h
  obtain ⟨y', ys, F1, F2, e1, e2, e3, e4⟩ := h.tm
  obtain ⟨rfl, rfl⟩ := List.cons.inj e1
  exact ⟨B, h.evo.sub, e3.2⟩
theorem At.pop {Δ : List OT} {σ : L2.St} {vs : List V} {H : Hp} {r : OT} {v : V} {Z : Wd} {E : Ent} (h : DL.At Z E n Γ (r :: Δ) σ (v :: vs) H) : DL.At Z E n Γ Δ σ vs H := by
  obtain ⟨B, F, G, h⟩ := h
  obtain ⟨G', h'⟩ := h.pop1
  exact ⟨B, F, G', h'⟩
/-- a flat value in the place of two temporaries -/
theorem At.two {Δ : List OT} {σ : L2.St} {vs : List V} {H : Hp} {x y : OT} {v w u : V} {d : D} {Z : Wd} {E : Ent} (h : DL.At Z E n Γ (y :: x :: Δ) σ (w :: v :: vs) H) (hd : ∀ B, Rp Z.K B d u) : DL.At Z E n Γ (.frz d :: Δ) σ (u :: vs) H := by
  obtain ⟨B, F, G, h⟩ := h.pop.pop
  exact ⟨B, F, G, h.pushV (hd B)⟩
theorem At.flat {Δ : List OT} {σ : L2.St} {vs : List V} {H : Hp} {u : V} {d : D} {Z : Wd} {E : Ent} (h : DL.At Z E n Γ Δ σ vs H) (hd : ∀ B, Rp Z.K B d u) : DL.At Z E n Γ (.frz d :: Δ) σ (u :: vs) H := by
  obtain ⟨B, F, G, h⟩ := h
  exact ⟨B, F, G, h.pushV (hd B)⟩
/-- an operation on two frozen things that gives a flat one -/
theorem ho_flat {c : R2} {d e z : D} {u : V} (r : ∀ (B H : Hp) (v w : V) (Q : VK), Ex B H → Rp S.X.K B d v → Rp S.X.K B e w → Q u H → c v w H Q) (hz : ∀ B, Rp S.X.K B z u) (k : K n Γ (.frz z)) : HO2 S c n Γ (.frz d) (.frz e) K := by
  intro Δ σ v w vs H Q at0 q
  obtain ⟨B, F, G, h⟩ := at0
  obtain ⟨y', ys, F1, F2, e1, e2, e3, e4⟩ := h.tm
  obtain ⟨rfl, rfl⟩ := List.cons.inj e1
  obtain ⟨y2, ys2, F3, F4, q1, q2, q3, q4⟩ := e4
  obtain ⟨rfl, rfl⟩ := List.cons.inj q1
  exact r B H v w Q h.evo.sub q3.2 e3.2 (q n Γ _ u H k (At.two ⟨B, F, G, h⟩ hz))
section
variable {i j : Int} {x y : Str} {a b : Bool}
theorem o_add (k : K n Γ (.frz (.int (i + j)))) : HO2 S (cB S.X .Add) n Γ (.frz (.int i)) (.frz (.int j)) K :=
  ho_flat (u := .int (i + j)) (fun B H v w Q _ h1 h2 q => by cases h1; cases h2; exact ⟨_, op_add, i, j, rfl, rfl, q⟩) (fun _ => by exact rfl) k
theorem o_sub (k : K n Γ (.frz (.int (i - j)))) : HO2 S (cB S.X .Sub) n Γ (.frz (.int i)) (.frz (.int j)) K :=
  ho_flat (u := .int (i - j)) (fun B H v w Q _ h1 h2 q => by cases h1; cases h2; exact ⟨_, op_sub, i, j, rfl, rfl, q⟩) (fun _ => by exact rfl) k
theorem o_mul (hc : CMul i j) (k : K n Γ (.frz (.int (i * j)))) : HO2 S (cB S.X .Mult) n Γ (.frz (.int i)) (.frz (.int j)) K :=
  ho_flat (u := .int (i * j)) (fun B H v w Q _ h1 h2 q => by cases h1; cases h2; exact ⟨_, op_mul, i, j, rfl, rfl, hc, q⟩) (fun _ => by exact rfl) k
theorem o_mod (hc : 0 < j) (k : K n Γ (.frz (.int (i % j)))) : HO2 S (cB S.X .Mod) n Γ (.frz (.int i)) (.frz (.int j)) K :=
  ho_flat (u := .int (i % j)) (fun B H v w Q _ h1 h2 q => by cases h1; cases h2; exact ⟨_, op_mod, i, j, rfl, rfl, hc, q⟩) (fun _ => by exact rfl) k
theorem o_fdiv (hc : CDiv i j) (k : K n Γ (.frz (.int (i / j)))) : HO2 S (cB S.X .FloorDiv) n Γ (.frz (.int i)) (.frz (.int j)) K :=
  ho_flat (u := .int (i / j)) (fun B H v w Q _ h1 h2 q => by cases h1; cases h2; exact ⟨_, op_fdiv, i, j, rfl, rfl, hc, q⟩) (fun _ => by exact rfl) k
theorem o_pow (hc : CPow i j) (k : K n Γ (.frz (.int (i ^ j.toNat)))) : HO2 S (cB S.X .Pow) n Γ (.frz (.int i)) (.frz (.int j)) K :=
  ho_flat (u := .int (i ^ j.toNat)) (fun B H v w Q _ h1 h2 q => by cases h1; cases h2; exact ⟨_, op_pow, i, j, rfl, rfl, hc, q⟩) (fun _ => by exact rfl) k
theorem o_cat (hc : x.length + y.length ≤ sizeLine) (k : K n Γ (.frz (.str (x ++ y)))) : HO2 S (cB S.X .Add) n Γ (.frz (.str x)) (.frz (.str y)) K :=
  ho_flat (u := .str (x ++ y)) (fun B H v w Q _ h1 h2 q => by cases h1; cases h2; exact ⟨_, op_add_str, x, y, rfl, rfl, hc, q⟩) (fun _ => by exact rfl) k
theorem o_lt (k : K n Γ (.frz (.bl (decide (i < j))))) : HO2 S (cC S.X .Lt) n Γ (.frz (.int i)) (.frz (.int j)) K :=
  ho_flat (u := .bl _) (fun B H v w Q _ h1 h2 q => by cases h1; cases h2; exact ⟨_, op_lt, i, j, rfl, rfl, q⟩) (fun _ => by exact rfl) k
theorem o_le (k : K n Γ (.frz (.bl (decide (i ≤ j))))) : HO2 S (cC S.X .LtE) n Γ (.frz (.int i)) (.frz (.int j)) K :=
  ho_flat (u := .bl _) (fun B H v w Q _ h1 h2 q => by cases h1; cases h2; exact ⟨_, op_le, i, j, rfl, rfl, q⟩) (fun _ => by exact rfl) k
theorem o_gt (k : K n Γ (.frz (.bl (decide (j < i))))) : HO2 S (cC S.X .Gt) n Γ (.frz (.int i)) (.frz (.int j)) K :=
  ho_flat (u := .bl _) (fun B H v w Q _ h1 h2 q => by cases h1; cases h2; exact ⟨_, op_gt, i, j, rfl, rfl, q⟩) (fun _ => by exact rfl) k
theorem o_ge (k : K n Γ (.frz (.bl (decide (j ≤ i))))) : HO2 S (cC S.X .GtE) n Γ (.frz (.int i)) (.frz (.int j)) K :=
  ho_flat (u := .bl _) (fun B H v w Q _ h1 h2 q => by cases h1; cases h2; exact ⟨_, op_ge, i, j, rfl, rfl, q⟩) (fun _ => by exact rfl) k
theorem o_eqI (k : K n Γ (.frz (.bl (decide (i = j))))) : HO2 S (cC S.X .Eq) n Γ (.frz (.int i)) (.frz (.int j)) K :=
  ho_flat (u := .bl (decide (i = j))) (fun B H v w Q _ h1 h2 q => by
    cases h1; cases h2
    refine ⟨_, op_eq, rfl, ?_⟩
    have e : decide (V.int i = V.int j) = decide (i = j) := by simp
    rw [e]; exact q) (fun _ => by exact rfl) k
theorem o_neI (k : K n Γ (.frz (.bl (!decide (i = j))))) : HO2 S (cC S.X .NotEq) n Γ (.frz (.int i)) (.frz (.int j)) K :=
  ho_flat (u := .bl (!decide (i = j))) (fun B H v w Q _ h1 h2 q => by
    cases h1; cases h2
    refine ⟨_, op_ne, rfl, ?_⟩
    have e : decide (V.int i = V.int j) = decide (i = j) := by simp
    rw [e]; exact q) (fun _ => by exact rfl) k
theorem o_eqS (k : K n Γ (.frz (.bl (decide (x = y))))) : HO2 S (cC S.X .Eq) n Γ (.frz (.str x)) (.frz (.str y)) K :=
  ho_flat (u := .bl (decide (x = y))) (fun B H v w Q _ h1 h2 q => by
    cases h1; cases h2
    refine ⟨_, op_eq, rfl, ?_⟩
    have e : decide (V.str x = V.str y) = decide (x = y) := by simp
    rw [e]; exact q) (fun _ => by exact rfl) k
theorem o_neS (k : K n Γ (.frz (.bl (!decide (x = y))))) : HO2 S (cC S.X .NotEq) n Γ (.frz (.str x)) (.frz (.str y)) K :=
  ho_flat (u := .bl (!decide (x = y))) (fun B H v w Q _ h1 h2 q => by
    cases h1; cases h2
    refine ⟨_, op_ne, rfl, ?_⟩
    have e : decide (V.str x = V.str y) = decide (x = y) := by simp
    rw [e]; exact q) (fun _ => by exact rfl) k
theorem o_eqB (k : K n Γ (.frz (.bl (decide (a = b))))) : HO2 S (cC S.X .Eq) n Γ (.frz (.bl a)) (.frz (.bl b)) K :=
  ho_flat (u := .bl (decide (a = b))) (fun B H v w Q _ h1 h2 q => by
    cases h1; cases h2
    refine ⟨_, op_eq, rfl, ?_⟩
    have e : decide (V.bl a = V.bl b) = decide (a = b) := by simp
    rw [e]; exact q) (fun _ => by exact rfl) k
theorem o_neB (k : K n Γ (.frz (.bl (!decide (a = b))))) : HO2 S (cC S.X .NotEq) n Γ (.frz (.bl a)) (.frz (.bl b)) K :=
  ho_flat (u := .bl (!decide (a = b))) (fun B H v w Q _ h1 h2 q => by
    cases h1; cases h2
    refine ⟨_, op_ne, rfl, ?_⟩
    have e : decide (V.bl a = V.bl b) = decide (a = b) := by simp
    rw [e]; exact q) (fun _ => by exact rfl) k
end

/-! ### and, or, not, if else -/
theorem iteP {c : Bool} {A B : Prop} (h : (c = true → A) ∧ (c = false → B)) : if c = true then A else B := by
  cases c with
  | true => exact h.1 rfl
  | false => exact h.2 rfl
theorem he_one {e : Expr} {op} (h : HE S e n Γ K) : HE S (.BoolOp op [e] pos) n Γ K := fun Δ σ vs H Q a q => ⟨_, pe_one pe_c, h Δ σ vs H Q a q⟩
theorem he_and {a b : Expr} {rest : List Expr} (h : HE S a n Γ fun n1 Γ1 r => ∃ c, r = .frz (.bl c) ∧ if c = true then HE S (.BoolOp .And (b :: rest) pos) n1 Γ1 K else K n1 Γ1 (.frz (.bl false))) : HE S (.BoolOp .And (a :: b :: rest) pos) n Γ K := by
  intro Δ σ vs H Q a q
  refine ⟨_, pe_and pe_c pe_c, h Δ σ vs H _ a fun n1 Γ1 r v H1 ⟨c, hr, hk⟩ a1 => ?_⟩
  subst hr
  obtain ⟨B, _, e⟩ := At.val a1
  refine ⟨c, e, ?_⟩
  cases c with
  | true => exact hk Δ σ vs H1 Q a1.pop q
  | false => exact q n1 Γ1 _ (.bl false) H1 hk (a1.pop.flat fun _ => rfl)
theorem he_or {a b : Expr} {rest : List Expr} (h : HE S a n Γ fun n1 Γ1 r => ∃ c, r = .frz (.bl c) ∧ if c = true then K n1 Γ1 (.frz (.bl true)) else HE S (.BoolOp .Or (b :: rest) pos) n1 Γ1 K) : HE S (.BoolOp .Or (a :: b :: rest) pos) n Γ K := by
  intro Δ σ vs H Q a q
  refine ⟨_, pe_or pe_c pe_c, h Δ σ vs H _ a fun n1 Γ1 r v H1 ⟨c, hr, hk⟩ a1 => ?_⟩
  subst hr
  obtain ⟨B, _, e⟩ := At.val a1
  refine ⟨c, e, ?_⟩
  cases c with
  | true => exact q n1 Γ1 _ (.bl true) H1 hk (a1.pop.flat fun _ => rfl)
  | false => exact hk Δ σ vs H1 Q a1.pop q
theorem he_not {a : Expr} (h : HE S a n Γ fun n1 Γ1 r => ∃ c, r = .frz (.bl c) ∧ K n1 Γ1 (.frz (.bl (!c)))) : HE S (.UnaryOp .Not a pos) n Γ K := by
  intro Δ σ vs H Q a q
  refine ⟨_, pe_not pe_c, h Δ σ vs H _ a fun n1 Γ1 r v H1 ⟨c, hr, hk⟩ a1 => ?_⟩
  subst hr
  obtain ⟨B, _, e⟩ := At.val a1
  exact ⟨c, e, q n1 Γ1 _ (.bl (!c)) H1 hk (a1.pop.flat fun _ => rfl)⟩
theorem he_neg {i : Int} {a : Expr} (h : HE S a n Γ fun n1 Γ1 r => ∃ i, r = .frz (.int i) ∧ K n1 Γ1 (.frz (.int (-i)))) : HE S (.UnaryOp .USub a pos) n Γ K := by
  intro Δ σ vs H Q a q
  refine ⟨_, pe_un un_neg pe_c, h Δ σ vs H _ a fun n1 Γ1 r v H1 ⟨c, hr, hk⟩ a1 => ?_⟩
  subst hr
  obtain ⟨B, _, e⟩ := At.val a1
  exact ⟨c, e, q n1 Γ1 _ (.int (-c)) H1 hk (a1.pop.flat fun _ => rfl)⟩
theorem he_if {c a b : Expr} (h : HT S c n Γ fun n1 Γ1 t => if t = true then HE S a n1 Γ1 K else HE S b n1 Γ1 K) : HE S (.IfExp c a b pos) n Γ K := by
  intro Δ σ vs H Q a q
  refine ⟨_, pe_ifExp pt_c pe_c pe_c, h Δ σ vs H _ a fun n1 Γ1 t H1 hk a1 => ?_⟩
  cases t with
  | true => exact hk Δ σ vs H1 Q a1 q
  | false => exact hk Δ σ vs H1 Q a1 q
theorem ht_w {e : Expr} (h : HW S e n Γ KB) : HT S e n Γ KB := fun Δ σ vs H Q a q => ⟨_, PW.pt pw_c, h Δ σ vs H Q a q⟩
theorem hw_and1 {a : Expr} (h : HT S a n Γ KB) : HW S (.BoolOp .And [a] pos) n Γ KB := fun Δ σ vs H Q at0 q => ⟨_, pw_and1 pt_c, h Δ σ vs H Q at0 q⟩
theorem hw_or1 {a : Expr} (h : HT S a n Γ KB) : HW S (.BoolOp .Or [a] pos) n Γ KB := fun Δ σ vs H Q at0 q => ⟨_, pw_or1 pt_c, h Δ σ vs H Q at0 q⟩
theorem hw_and {a b : Expr} {rest : List Expr} (h : HT S a n Γ fun n1 Γ1 c => if c = true then HW S (.BoolOp .And (b :: rest) pos) n1 Γ1 KB else KB n1 Γ1 false) : HW S (.BoolOp .And (a :: b :: rest) pos) n Γ KB := by
  intro Δ σ vs H Q at0 q
  refine ⟨_, pw_and pt_c pw_c, h Δ σ vs H _ at0 fun n1 Γ1 c H1 hk a1 => ?_⟩
  cases c with
  | true => exact hk Δ σ vs H1 Q a1 q
  | false => exact q n1 Γ1 false H1 hk a1
theorem hw_or {a b : Expr} {rest : List Expr} (h : HT S a n Γ fun n1 Γ1 c => if c = true then KB n1 Γ1 true else HW S (.BoolOp .Or (b :: rest) pos) n1 Γ1 KB) : HW S (.BoolOp .Or (a :: b :: rest) pos) n Γ KB := by
  intro Δ σ vs H Q at0 q
  refine ⟨_, pw_or pt_c pw_c, h Δ σ vs H _ at0 fun n1 Γ1 c H1 hk a1 => ?_⟩
  cases c with
  | true => exact q n1 Γ1 true H1 hk a1
  | false => exact hk Δ σ vs H1 Q a1 q
theorem ht_not {a : Expr} (h : HT S a n Γ fun n1 Γ1 c => KB n1 Γ1 (!c)) : HT S (.UnaryOp .Not a pos) n Γ KB := by
  intro Δ σ vs H Q at0 q
  exact ⟨_, pt_not pt_c, h Δ σ vs H _ at0 fun n1 Γ1 c H1 hk a1 => q n1 Γ1 (!c) H1 hk a1⟩
/-- truth of data -/
def truD : OT → Option Bool
  | .frz .non => some false
  | .frz (.bl b) => some b
  | .frz (.int i) => some (i != 0)
  | .frz (.str x) => if x.length ≤ sizeLine then some ((x.length : Int) != 0) else none
  | .frz (.lst ds) => some (!ds.isEmpty)
  | .frz (.tup ds) => some (!ds.isEmpty)
  | .ol ts => some (!ts.isEmpty)
  | .ot ts => some (!ts.isEmpty)
  | _ => none
theorem isEmpty_len {α β : Type} {xs : List α} {ys : List β} (h : xs.length = ys.length) : xs.isEmpty = ys.isEmpty := by
  cases xs <;> cases ys <;> first | rfl | simp at h
theorem tru_of {k : Bool} {r : OT} {v : V} {F : List Addr} {H B : Hp} {KK : PySem.W.Frag} (e : Ex B H) (hr : RpO KK H B r v F) (h : truD r = some k) : TruV KK v H k := by
  cases r with
  | frz d =>
    obtain ⟨_, hr⟩ := hr
    cases d with
    | non => cases hr; cases h; exact rfl
    | bl b => cases hr; cases h; exact rfl
    | int i => cases hr; cases h; exact rfl
    | str x =>
      cases hr
      have h' : (if x.length ≤ sizeLine then some ((x.length : Int) != 0) else none) = some k := h
      by_cases hl : x.length ≤ sizeLine
      · rw [if_pos hl] at h'
        cases h'
        exact ⟨hl, rfl⟩
      · rw [if_neg hl] at h'
        cases h'
    | lst ds =>
      obtain ⟨a, xs, rfl, e2, e3⟩ := hr
      cases h
      exact .inl ⟨xs, SqL.of (e _ _ e2), by rw [isEmpty_len e3.len]⟩
    | tup ds =>
      obtain ⟨a, xs, rfl, e2, e3⟩ := hr
      cases h
      exact .inr (.inl ⟨xs, ex_t e e2, by rw [isEmpty_len e3.len]⟩)
    | dct ks ds => cases h
    | obj C ns ds => cases h
    | opq v => cases h
  | ol ts =>
    obtain ⟨a, xs, G, rfl, e2, e3, e4⟩ := hr
    cases h
    exact .inl ⟨xs, .of e3, by rw [isEmpty_len e4.len]⟩
  | ot ts =>
    obtain ⟨a, xs, G, rfl, e2, e3, e4⟩ := hr
    cases h
    exact .inr (.inl ⟨xs, .of e3, by rw [isEmpty_len e4.len]⟩)
  | od ks ts => cases h
  | oo C ns ts => cases h
theorem ht_val {e : Expr} (h : HE S e n Γ fun n1 Γ1 r => ∃ b, truD r = some b ∧ KB n1 Γ1 b)
    (he : ∀ whole, isTrue e S.X.env whole = (do let v ← whole; standAt e.pos; holding [v] (truthy v)) := by intro _; rfl) : HT S e n Γ KB := by
  intro Δ σ vs H Q at0 q
  refine ⟨_, pt_truth pe_c he, h Δ σ vs H _ at0 fun n1 Γ1 r v H1 ⟨b, hb, hk⟩ a1 => ?_⟩
  have e2 : TruV S.X.K v H1 b := by
    obtain ⟨B, F, G, h1⟩ := a1
    obtain ⟨y', ys, F1, F2, e1, e2, e3, e4⟩ := h1.tm
    obtain ⟨rfl, rfl⟩ := List.cons.inj e1
    exact tru_of h1.evo.sub e3 hb
  exact ⟨b, e2, q n1 Γ1 b H1 hk a1.pop⟩

/-! ### arguments, displays -/
theorem ha_nil {KA : Nat → Slots → List OT → Prop} (k : KA n Γ []) : HA S [] n Γ KA := fun Δ σ vs H Q at0 q => ⟨_, pa_nil, q n Γ [] [] H k rfl at0⟩
theorem ha_cons {KA : Nat → Slots → List OT → Prop} {e : Expr} {es : List Expr} (h : HE S e n Γ fun n1 Γ1 r => HA S es n1 Γ1 fun n2 Γ2 rs => KA n2 Γ2 (r :: rs))
    (hs : starEach (e :: es) S.X.env = (false, eval e S.X.env) :: starEach es S.X.env := by rfl) : HA S (e :: es) n Γ KA := by
  intro Δ σ vs H Q at0 q
  refine ⟨_, pa_cons pe_c pa_c hs, h Δ σ vs H _ at0 fun n1 Γ1 r v H1 hr a1 => hr _ σ _ H1 _ a1 fun n2 Γ2 rs xs H2 hk hl a2 => ?_⟩
  obtain ⟨B, F, G, a2⟩ := a2
  obtain ⟨G', a3⟩ := a2.rot hl
  exact q n2 Γ2 (r :: rs) (v :: xs) H2 hk (by simp [hl]) ⟨B, F, G', a3⟩
theorem he_list {es : List Expr} (h : HA S es n Γ fun n1 Γ1 rs => rs.length ≤ 100000 ∧ K n1 Γ1 (.ol rs)) : HE S (.List es pos) n Γ K := by
  intro Δ σ vs H Q at0 q
  refine ⟨_, pe_lst pa_c, h Δ σ vs H _ at0 fun n1 Γ1 rs xs H1 ⟨hz, hk⟩ hl ⟨B, F, G, a1⟩ => ⟨sz_of (by rw [hl]; exact hz), fun p hp => ?_⟩⟩
  obtain ⟨G', a2⟩ := a1.mkList hl hp
  exact q n1 Γ1 _ _ _ hk ⟨B, F, G', a2⟩
theorem he_tup {es : List Expr} {x1} (h : HA S es n Γ fun n1 Γ1 rs => rs.length ≤ 100000 ∧ K n1 Γ1 (.ot rs)) : HE S (.Tuple es x1 pos) n Γ K := by
  intro Δ σ vs H Q at0 q
  refine ⟨_, pe_tup pa_c, h Δ σ vs H _ at0 fun n1 Γ1 rs xs H1 ⟨hz, hk⟩ hl ⟨B, F, G, a1⟩ => ⟨sz_of (by rw [hl]; exact hz), fun p hp => ?_⟩⟩
  obtain ⟨G', a2⟩ := a1.mkTup hl hp
  exact q n1 Γ1 _ _ _ hk ⟨B, F, G', a2⟩
/-- what comes is frozen -/
theorem he_frz {e : Expr} (h : HE S e n Γ fun n1 Γ1 r => K n1 Γ1 (.frz r.d)) : HE S e n Γ K := by
  intro Δ σ vs H Q at0 q
  refine h Δ σ vs H _ at0 fun n1 Γ1 r v H1 hk ⟨B, F, G, a1⟩ => ?_
  obtain ⟨B', G', _, _, a2⟩ := a1.freeze1
  exact q n1 Γ1 _ v H1 hk ⟨B', F, G', a2⟩
theorem HE.mono {e : Expr} {K' : Nat → Slots → OT → Prop} (h : HE S e n Γ K') (hk : ∀ n' Γ' r, K' n' Γ' r → K n' Γ' r) : HE S e n Γ K := fun Δ σ vs H Q at0 q => h Δ σ vs H Q at0 fun n1 Γ1 r v H1 h1 a1 => q n1 Γ1 r v H1 (hk _ _ _ h1) a1
theorem HT.mono {e : Expr} {K' : Nat → Slots → Bool → Prop} (h : HT S e n Γ K') (hk : ∀ n' Γ' r, K' n' Γ' r → KB n' Γ' r) : HT S e n Γ KB := fun Δ σ vs H Q at0 q => h Δ σ vs H Q at0 fun n1 Γ1 r H1 h1 a1 => q n1 Γ1 r H1 (hk _ _ _ h1) a1
end
end DL

set_option Elab.async false
set_option linter.all false
set_option maxRecDepth 100000
set_option maxHeartbeats 4000000
/-! DLD: statements, loops, defs. -/
namespace DL
open PySem PySem.Spec PyProof.Rows L2 Evl

section
variable {Z : Wd} {E : Ent} {n : Nat} {Γ : Slots} {Δ : List OT} {σ : L2.St} {vs : List V} {H : Hp}
/-- temporaries behind the first are let go -/
theorem At.drop {r : OT} {v : V} {rs : List OT} {xs : List V} (h : DL.At Z E n Γ (r :: (rs ++ Δ)) σ (v :: (xs ++ vs)) H) (hl : xs.length = rs.length) : DL.At Z E n Γ (r :: Δ) σ (v :: vs) H := by
  obtain ⟨B, F, G, h⟩ := h
  obtain ⟨y, ys, F1, F2, e1, e2, e3, e4⟩ := h.tm
  obtain ⟨rfl, rfl⟩ := List.cons.inj e1
  obtain ⟨ys, zs, G1, G2, q1, q2, q3, q4, q5⟩ := RpOs.split e4
  obtain ⟨rfl, rfl⟩ := List.append_inj q1 (hl.trans q2.symm)
  refine ⟨B, F, F1 ++ G2, h.evo, h.sl, ⟨v, _, F1, G2, rfl, rfl, e3, q5⟩, fun a => ?_, fun a ha => h.out a ?_, h.str, h.bst, h.tab, h.pin⟩
  · have := h.nd a
    rw [e2, q3] at this
    simp only [List.count_append] at this ⊢
    omega
  · rw [e2, q3]
    simp only [List.count_append] at ha ⊢
    omega
theorem At.pops {rs : List OT} {xs : List V} (h : DL.At Z E n Γ (rs ++ Δ) σ (xs ++ vs) H) (hl : xs.length = rs.length) : DL.At Z E n Γ Δ σ vs H := by
  obtain ⟨B, F, G, h⟩ := h
  obtain ⟨G', _, h'⟩ := h.pop hl
  exact ⟨B, F, G', h'⟩
theorem At.less {m : Nat} (h : DL.At Z E n Γ Δ σ vs H) (hm : m ≤ n) : DL.At Z E m Γ Δ σ vs H := by
  obtain ⟨B, F, G, h⟩ := h
  exact ⟨B, F, G, h.less hm⟩
theorem At.len (h : DL.At Z E n Γ Δ σ vs H) : σ.length = Γ.length := by
  obtain ⟨B, F, G, h⟩ := h
  exact h.len
end

section
variable {S : Sit} {n : Nat} {Γ : Slots} {K : Nat → Slots → OT → Prop} {KB : Nat → Slots → Bool → Prop} {P : Post} {pos p p2 : Pos}
/-! ### statements -/
theorem hss_nil (k : P.nx n Γ) : HSs S [] n Γ P := fun Δ σ vs H D a m => ⟨_, pss_nil, m.nx n Γ σ H k a⟩
theorem hss_cons {st : Stmt} {rest : List Stmt} (h : HS S st n Γ { P with nx := fun n1 Γ1 => HSs S rest n1 Γ1 P }) : HSs S (st :: rest) n Γ P := fun Δ σ vs H D a m =>
  ⟨_, pss_cons ps_c pss_c, h Δ σ vs H _ a ⟨fun n1 Γ1 σ1 H1 hk a1 => hk Δ σ1 vs H1 D a1 m, m.rt, m.bk, m.ct⟩⟩
theorem hss_one {st : Stmt} (h : HS S st n Γ P) : HSs S [st] n Γ P := fun Δ σ vs H D a m => ⟨_, pss_one ps_c, h Δ σ vs H D a m⟩
theorem hs_pass (k : P.nx n Γ) : HS S (.Pass pos) n Γ P := fun Δ σ vs H D a m => ⟨_, ps_pass, m.nx n Γ σ H k a⟩
theorem hs_break (k : P.bk n Γ) : HS S (.Break pos) n Γ P := fun Δ σ vs H D a m => ⟨_, ps_break, m.bk n Γ σ H k a⟩
theorem hs_continue (k : P.ct n Γ) : HS S (.Continue pos) n Γ P := fun Δ σ vs H D a m => ⟨_, ps_continue, m.ct n Γ σ H k a⟩
theorem hs_expr {e : Expr} (h : HE S e n Γ fun n1 Γ1 _ => P.nx n1 Γ1) (hs : swapsWith e none pos.line S.X.env = pure false := by rfl) : HS S (.Expr e pos) n Γ P := fun Δ σ vs H D a m =>
  ⟨_, ps_expr pe_c hs, h Δ σ vs H _ a fun n1 Γ1 r v H1 hk a1 => m.nx n1 Γ1 σ H1 hk a1.pop⟩
theorem hs_ret {e : Expr} (h : HE S e n Γ P.rt) : HS S (.Return (some e) pos) n Γ P := fun Δ σ vs H D a m =>
  ⟨_, ps_ret pe_c, h Δ σ vs H _ a fun n1 Γ1 r v H1 hk a1 => m.rt n1 Γ1 r σ v H1 hk a1⟩
theorem hs_retN (k : P.rt n Γ (.frz .non)) : HS S (.Return none pos) n Γ P := fun Δ σ vs H D a m =>
  ⟨_, ps_retN, m.rt n Γ _ σ .non H k (a.flat fun _ => rfl)⟩
theorem hs_if {c : Expr} {x y : List Stmt} (h : HT S c n Γ fun n1 Γ1 t => if t = true then HSs S x n1 Γ1 P else HSs S y n1 Γ1 P) : HS S (.If c x y pos) n Γ P := by
  intro Δ σ vs H D a m
  refine ⟨_, ps_if pt_c pss_c pss_c, h Δ σ vs H _ a fun n1 Γ1 t H1 hk a1 => ?_⟩
  cases t with
  | true => exact hk Δ σ vs H1 D a1 m
  | false => exact hk Δ σ vs H1 D a1 m
theorem hs_set (i : Nat) {x : Str} {e : Expr} {pos' : Pos} (h : HE S e n Γ fun n1 Γ1 r => i < Γ1.length ∧ S.E.P.getD i none = none ∧ P.nx n1 (Γ1.set i (some r)))
    (hN : S.X.N.Nodup) (hi : S.X.N[i]? = some x) (hx : Loc S.X.env.scope x) (hs : swapsWith e (some (.Name x pos')) pos.line S.X.env = pure false := by rfl)
    (hf : S.X.fn x = true ∨ S.X.env.scope.names.lookup x = some .local := by first | exact .inl rfl | exact .inr rfl | assumption) : HS S (.Assign [.Name x pos'] e pos) n Γ P := by
  intro Δ σ vs H D a m
  refine ⟨_, ps_set hN hi hx pe_c hs hf, h Δ σ vs H _ a fun n1 Γ1 r v H1 ⟨h1, h2, hk⟩ a1 => ?_⟩
  obtain ⟨B, F, G, a1⟩ := a1
  obtain ⟨F', G', a2⟩ := a1.store h1 h2
  exact m.nx n1 _ _ H1 hk ⟨B, F', G', a2⟩

/-! ### targets -/
/-- a frozen thing goes to a target -/
def HG (S : Sit) (g : TG) (d : D) (n : Nat) (Γ : Slots) (k : Nat → Slots → Prop) : Prop :=
  ∀ Δ σ v vs H Q, S.At n Γ (.frz d :: Δ) σ (v :: vs) H → (∀ n' Γ' σ' H', k n' Γ' → S.At n' Γ' Δ σ' vs H' → Q σ' H') → g v σ H Q
def HGs (S : Sit) (g : TGs) (ds : List D) (n : Nat) (Γ : Slots) (k : Nat → Slots → Prop) : Prop :=
  ∀ Δ σ ws vs H Q, ws.length = ds.length → S.At n Γ (ds.map OT.frz ++ Δ) σ (ws ++ vs) H → (∀ n' Γ' σ' H', k n' Γ' → S.At n' Γ' Δ σ' vs H' → Q σ' H') → g ws σ H Q
theorem hg_name (i : Nat) {d : D} {k : Nat → Slots → Prop} (h : i < Γ.length ∧ S.E.P.getD i none = none ∧ k n (Γ.set i (some (.frz d)))) : HG S (gName i) d n Γ k := by
  intro Δ σ v vs H Q ⟨B, F, G, a⟩ q
  obtain ⟨F', G', a2⟩ := a.store h.1 h.2.1
  exact q n _ _ H h.2.2 ⟨B, F', G', a2⟩
theorem hgs_nil {k : Nat → Slots → Prop} (h : k n Γ) : HGs S gNil [] n Γ k := by
  intro Δ σ ws vs H Q hl a q
  cases ws with
  | nil => exact ⟨rfl, q n Γ σ H h a⟩
  | cons w ws => simp at hl
theorem hgs_cons {g : TG} {u : TGs} {d : D} {ds : List D} {k : Nat → Slots → Prop} (h : HG S g d n Γ fun n1 Γ1 => HGs S u ds n1 Γ1 k) : HGs S (gCons g u) (d :: ds) n Γ k := by
  intro Δ σ ws vs H Q hl a q
  cases ws with
  | nil => simp at hl
  | cons w ws => exact ⟨w, ws, rfl, h (ds.map OT.frz ++ Δ) σ w (ws ++ vs) H _ a fun n1 Γ1 σ1 H1 hk a1 => hk Δ σ1 ws vs H1 Q (by simpa using hl) a1 q⟩
/-- a frozen tuple's parts -/
theorem At.untup {Z : Wd} {E : Ent} {Δ : List OT} {σ : L2.St} {v : V} {vs : List V} {H : Hp} {ds : List D} (h : DL.At Z E n Γ (.frz (.tup ds) :: Δ) σ (v :: vs) H) : ∃ a xs, v = .ref a ∧ SqT Z.K H a xs ∧ xs.length = ds.length ∧ DL.At Z E n Γ (ds.map OT.frz ++ Δ) σ (xs ++ vs) H := by
  obtain ⟨B, F, G, h⟩ := h
  obtain ⟨y, ys, F1, F2, e1, e2, e3, e4⟩ := id h.tm
  obtain ⟨rfl, rfl⟩ := List.cons.inj e1
  obtain ⟨e5, a, xs, rfl, e6, e7⟩ := e3
  have q := RpOs.app (RpOs.frzs (H := H) e7) e4
  refine ⟨a, xs, rfl, ex_t h.evo.sub e6, e7.len, B, F, [] ++ F2, h.evo, h.sl, q, fun b => ?_, fun b hb => h.out b ?_, h.str, h.bst, h.tab, h.pin⟩
  · have := h.nd b
    rw [e2, e5] at this
    simpa using this
  · rw [e2, e5]
    simpa using hb
theorem hg_tup {m : Nat} {g : TGs} {ds : List D} {k : Nat → Slots → Prop} (hm : ds.length = m) (h : HGs S g ds n Γ k) : HG S (gTup S.X.K m g) (.tup ds) n Γ k := by
  intro Δ σ v vs H Q a q
  obtain ⟨b, xs, rfl, h1, h2, a1⟩ := a.untup
  exact ⟨b, xs, rfl, h1, by rw [h2, hm], h Δ σ xs vs H Q h2 a1 q⟩

/-! ### what is walked -/
def cPI (X : Cx) (tg iter : Expr) : TI := fun σ H R => ∃ w, PI X tg iter w ∧ w σ H R
theorem pi_c {X : Cx} {tg iter : Expr} : PI X tg iter (cPI X tg iter) := ⟨fun pins s σ H R I ⟨w, hw, h⟩ => hw.run pins s σ H R I h⟩
/-- the iterator J gives the data ds, as long as ts0 stand at vs0 -/
def WkD (K : PySem.W.Frag) (J : It) (ts0 : List D) (vs0 : List V) (ds : List D) : Prop := ∀ B H, Ex B H → RpL K B ts0 vs0 →
  (∀ i d, ds[i]? = some d → J.go i H ∧ ∀ y H', J.yld i H y H' → ∃ B', Grow H B H' B' ∧ Rp K B' d y) ∧ ∀ i, ds.length ≤ i → J.stop i H
def HI (S : Sit) (tg iter : Expr) (n : Nat) (Γ : Slots) (KI : Nat → Slots → List D → Prop) : Prop :=
  ∀ Δ σ vs H R, S.At n Γ Δ σ vs H → (∀ n' Γ' ds ts0 vs0 J H2, KI n' Γ' ds → vs0.length = ts0.length → S.At n' Γ' (ts0.map OT.frz ++ Δ) σ (vs0 ++ vs) H2 → WkD S.X.K J ts0 vs0 ds → R J H2) → cPI S.X tg iter σ H R
theorem wk_list {K : PySem.W.Frag} {a : Addr} {ds : List D} : WkD K (Itl K a) [.lst ds] [.ref a] ds := by
  intro B H e ⟨y, ys, e1, ⟨b, xs, e2, e3, e4⟩, _⟩
  obtain ⟨rfl, rfl⟩ := List.cons.inj e1
  cases e2
  refine ⟨fun i d hd => ?_, fun i hi => ⟨xs, SqL.of (e _ _ e3), by rw [e4.len]; exact hi⟩⟩
  obtain ⟨x, h1, h2⟩ := e4.get hd
  refine ⟨⟨xs, x, SqL.of (e _ _ e3), h1⟩, fun y H' ⟨h3, h4⟩ => ⟨B, ?_, ?_⟩⟩
  · rw [h3]; exact Grow.refl e
  · have := h4 xs (SqL.of (e _ _ e3))
    rw [h1] at this
    rw [← Option.some.inj this]
    exact h2
theorem wk_tup {K : PySem.W.Frag} {a : Addr} {ds : List D} : WkD K (Itt K a) [.tup ds] [.ref a] ds := by
  intro B H e ⟨y, ys, e1, ⟨b, xs, e2, e3, e4⟩, _⟩
  obtain ⟨rfl, rfl⟩ := List.cons.inj e1
  cases e2
  refine ⟨fun i d hd => ?_, fun i hi => ⟨xs, ex_t e e3, by rw [e4.len]; exact hi⟩⟩
  obtain ⟨x, h1, h2⟩ := e4.get hd
  refine ⟨⟨xs, x, ex_t e e3, h1⟩, fun y H' ⟨h3, h4⟩ => ⟨B, ?_, ?_⟩⟩
  · rw [h3]; exact Grow.refl e
  · have := h4 xs (ex_t e e3)
    rw [h1] at this
    rw [← Option.some.inj this]
    exact h2
theorem wk_range {K : PySem.W.Frag} {lo : Int} {m : Nat} : WkD K (Itr lo m) [] [] ((List.range m).map fun i : Nat => .int (lo + (i : Int))) := by
  intro B H e _
  refine ⟨fun i d hd => ?_, fun i hi => (show m ≤ i by simpa using hi)⟩
  have hi : i < m := by
    have := (List.getElem?_eq_some_iff.mp hd).1
    simpa using this
  refine ⟨hi, fun y H' ⟨h3, h4⟩ => ⟨B, by rw [h3]; exact Grow.refl e, ?_⟩⟩
  rw [List.getElem?_map, List.getElem?_range hi] at hd
  have := Option.some.inj hd
  rw [← this, h4]
  exact rfl
theorem wk_str {K : PySem.W.Frag} {x : Str} : WkD K (Its x) [] [] (x.cps.toList.map fun c => .str ⟨#[c]⟩) := by
  intro B H e _
  refine ⟨fun i d hd => ?_, fun i hi => (show x.cps.size ≤ i by simpa using hi)⟩
  rw [List.getElem?_map] at hd
  cases q : x.cps.toList[i]? with
  | none => rw [q] at hd; cases hd
  | some c =>
    rw [q] at hd
    have e1 := Option.some.inj hd
    have hi : i < x.cps.size := by
      have := (List.getElem?_eq_some_iff.mp q).1
      simpa using this
    refine ⟨hi, fun y H' ⟨h3, c', h4, h5⟩ => ⟨B, by rw [h3]; exact Grow.refl e, ?_⟩⟩
    have h6 : x.cps[i]? = some c := by rw [← q]; simp
    rw [h6] at h4
    cases h4
    rw [← e1, h5]
    exact rfl
theorem At.walk {Z : Wd} {E : Ent} {Δ : List OT} {σ : L2.St} {vs vs0 : List V} {H : Hp} {ts0 ds : List D} {J : It} (h : DL.At Z E n Γ (ts0.map OT.frz ++ Δ) σ (vs0 ++ vs) H) (hl : vs0.length = ts0.length) (w : WkD Z.K J ts0 vs0 ds) :
    (∀ i d, ds[i]? = some d → J.go i H ∧ ∀ y H', J.yld i H y H' → DL.At Z E n Γ (.frz d :: (ts0.map OT.frz ++ Δ)) σ (y :: (vs0 ++ vs)) H') ∧ ∀ i, ds.length ≤ i → J.stop i H := by
  obtain ⟨B, F, G, h⟩ := h
  obtain ⟨xs, ys, G1, G2, q1, q2, q3, q4, q5⟩ := RpOs.split h.tm
  obtain ⟨rfl, rfl⟩ := List.append_inj q1 (by rw [hl, q2, List.length_map])
  obtain ⟨w1, w2⟩ := w B H h.evo.sub (RpOs.frzs_inv q4).2
  refine ⟨fun i d hd => ⟨(w1 i d hd).1, fun y H' hy => ?_⟩, w2⟩
  obtain ⟨B', g, r⟩ := (w1 i d hd).2 y H' hy
  exact ⟨B', F, G, h.pushF g r⟩
/-- an iterable by its value -/
theorem hi_of {tg iter : Expr} {KI : Nat → Slots → List D → Prop} (w : TE → TI) (hw : ∀ te, PE S.X iter te → PI S.X tg iter (w te))
    (h : HE S iter n Γ fun n1 Γ1 r => ∃ ds, KI n1 Γ1 ds ∧ ∀ Δ σ v vs H R, S.At n1 Γ1 (r :: Δ) σ (v :: vs) H →
      (∀ ts0 vs0 J H2, vs0.length = ts0.length → S.At n1 Γ1 (ts0.map OT.frz ++ Δ) σ (vs0 ++ vs) H2 → WkD S.X.K J ts0 vs0 ds → R J H2) → w (tC v) σ H R)
    (hm : ∀ te σ H R, te σ H (fun v H1 => w (tC v) σ H1 R) → w te σ H R) : HI S tg iter n Γ KI := by
  intro Δ σ vs H R at0 q
  refine ⟨_, hw _ pe_c, hm _ σ H R (h Δ σ vs H _ at0 fun n1 Γ1 r v H1 ⟨ds, hk, hw⟩ a1 => hw Δ σ v vs H1 R a1 fun ts0 vs0 J H2 hl a2 wk => q n1 Γ1 ds ts0 vs0 J H2 hk hl a2 wk)⟩
theorem At.frz1 {Z : Wd} {E : Ent} {Δ : List OT} {σ : L2.St} {v : V} {vs : List V} {H : Hp} {r : OT} (h : DL.At Z E n Γ (r :: Δ) σ (v :: vs) H) : DL.At Z E n Γ (.frz r.d :: Δ) σ (v :: vs) H := by
  obtain ⟨B, F, G, h⟩ := h
  obtain ⟨B', G', _, _, a2⟩ := h.freeze1
  exact ⟨B', F, G', a2⟩
theorem hi_list {tg iter : Expr} {KI : Nat → Slots → List D → Prop} (h : HE S iter n Γ fun n1 Γ1 r => ∃ ds, r.d = .lst ds ∧ KI n1 Γ1 ds) : HI S tg iter n Γ KI := by
  refine hi_of (iList S.X.K) (fun te ht => pi_list ht) (h.mono fun n1 Γ1 r ⟨ds, e, hk⟩ => ⟨ds, hk, fun Δ σ v vs H R a q => ?_⟩) fun te σ H R h => h
  have a1 := a.frz1
  rw [e] at a1
  obtain ⟨B, hB, b, xs, rfl, e2, e3⟩ := At.val a1
  exact ⟨b, rfl, ⟨xs, SqL.of (hB _ _ e2)⟩, q [.lst ds] [.ref b] _ H rfl a1 wk_list⟩
theorem hi_tup {tg iter : Expr} {KI : Nat → Slots → List D → Prop} (h : HE S iter n Γ fun n1 Γ1 r => ∃ ds, r.d = .tup ds ∧ KI n1 Γ1 ds) : HI S tg iter n Γ KI := by
  refine hi_of (iTup S.X.K) (fun te ht => pi_tup ht) (h.mono fun n1 Γ1 r ⟨ds, e, hk⟩ => ⟨ds, hk, fun Δ σ v vs H R a q => ?_⟩) fun te σ H R h => h
  have a1 := a.frz1
  rw [e] at a1
  obtain ⟨B, hB, b, xs, rfl, e2, e3⟩ := At.val a1
  exact ⟨b, rfl, ⟨xs, ex_t hB e2⟩, q [.tup ds] [.ref b] _ H rfl a1 wk_tup⟩
theorem hi_str {tg iter : Expr} {KI : Nat → Slots → List D → Prop} (h : HE S iter n Γ fun n1 Γ1 r => ∃ x, r = .frz (.str x) ∧ KI n1 Γ1 (x.cps.toList.map fun c => .str ⟨#[c]⟩)) : HI S tg iter n Γ KI := by
  refine hi_of iStr (fun te ht => pi_str ht) (h.mono fun n1 Γ1 r ⟨x, e, hk⟩ => ⟨_, hk, fun Δ σ v vs H R a q => ?_⟩) fun te σ H R h => h
  subst e
  obtain ⟨B, hB, e⟩ := At.val a
  exact ⟨x, e, q [] [] _ H rfl a.pop wk_str⟩
theorem hi_range1 {tg a : Expr} {KI : Nat → Slots → List D → Prop} (hm : S.X.mg "range" = none) (h : HA S [a] n Γ fun n1 Γ1 rs => ∃ j : Int, rs = [.frz (.int j)] ∧ -1000000 ≤ j ∧ j ≤ 1000000 ∧ KI n1 Γ1 ((List.range j.toNat).map fun i : Nat => .int (i : Int)))
    (hg : Gl S.X "range" := by rfl) (hs : starEach [a] S.X.env = [(false, eval a S.X.env)] := by rfl) : HI S tg (.Call (.Name "range" p) [a] [] pos) n Γ KI := by
  intro Δ σ vs H R at0 q
  refine ⟨_, pi_range1 hg hm pa_c hs, h Δ σ vs H _ at0 fun n1 Γ1 rs xs H1 ⟨j, e, h0, hj, hk⟩ hl a1 => ?_⟩
  subst e
  obtain ⟨v, rfl⟩ : ∃ v, xs = [v] := by
    cases xs with
    | nil => simp at hl
    | cons v r => cases r with
      | nil => exact ⟨v, rfl⟩
      | cons _ _ => simp at hl
  obtain ⟨B, hB, e⟩ := At.val a1
  have e : v = .int j := e
  refine ⟨j, by rw [e], by omega, by omega, q n1 Γ1 _ [] [] _ H1 hk rfl (At.pop a1) ?_⟩
  have w := wk_range (K := S.X.K) (lo := 0) (m := j.toNat)
  simp only [Int.zero_add] at w
  exact w
theorem hi_range2 {tg a b : Expr} {KI : Nat → Slots → List D → Prop} (hm : S.X.mg "range" = none) (h : HA S [a, b] n Γ fun n1 Γ1 rs => ∃ i j : Int, rs = [.frz (.int i), .frz (.int j)] ∧ -1000000 ≤ i ∧ i ≤ 1000000 ∧ -1000000 ≤ j ∧ j ≤ 1000000 ∧ KI n1 Γ1 ((List.range (j - i).toNat).map fun k : Nat => .int (i + (k : Int))))
    (hg : Gl S.X "range" := by rfl) (hs : starEach [a, b] S.X.env = [(false, eval a S.X.env), (false, eval b S.X.env)] := by rfl) (hs2 : starEach [b] S.X.env = [(false, eval b S.X.env)] := by rfl) : HI S tg (.Call (.Name "range" p) [a, b] [] pos) n Γ KI := by
  intro Δ σ vs H R at0 q
  refine ⟨_, pi_range2 hg hm pa_c hs hs2, h Δ σ vs H _ at0 fun n1 Γ1 rs xs H1 ⟨i, j, e, h0, h1, h2, h3, hk⟩ hl a1 => ?_⟩
  subst e
  obtain ⟨v, w, rfl⟩ : ∃ v w, xs = [v, w] := by
    match xs, hl with
    | [v, w], _ => exact ⟨v, w, rfl⟩
  obtain ⟨B, hB, e⟩ := At.val a1
  have e : v = .int i := e
  obtain ⟨B, hB, e'⟩ := At.val (At.pop a1)
  have e' : w = .int j := e'
  exact ⟨i, j, by rw [e, e'], ⟨by omega, by omega, by omega, by omega⟩, q n1 Γ1 _ [] [] _ H1 hk rfl (At.pop (At.pop a1)) wk_range⟩

/-! ### for -/
theorem hs_for {tg iter : Expr} {body : List Stmt} {g : TG} (h : HI S tg iter n Γ fun n1 Γ1 ds => ∃ I : Nat → Nat → Slots → Prop, I 0 n1 Γ1 ∧
      (∀ i n Γ d, ds[i]? = some d → I i n Γ → HG S g d n Γ fun n Γ => HSs S body n Γ { nx := I (i + 1), rt := P.rt, bk := P.nx, ct := I (i + 1) }) ∧ ∀ n Γ, I ds.length n Γ → P.nx n Γ)
    (hg : PG S.X tg g) (hc : S.X.calm = true := by rfl) (hst : ∀ x, foldedSetIterable iter S.X.env x = pure x := by intro _; rfl) : HS S (.For tg iter body [] pos) n Γ P := by
  intro Δ σ vs H D a m
  refine ⟨_, ps_for S.po hc pi_c hg pss_c hst, h Δ σ vs H _ a fun n1 Γ1 ds ts0 vs0 J H1 ⟨I, h0, hs, hd⟩ hl a1 wk => ?_⟩
  have hl' : vs0.length = (ts0.map OT.frz).length := by rw [hl, List.length_map]
  refine ⟨fun i k σ H => i + k = ds.length ∧ ∃ n Γ, I i n Γ ∧ S.At n Γ (ts0.map OT.frz ++ Δ) σ (vs0 ++ vs) H, ⟨ds.length, by omega, n1, Γ1, h0, a1⟩, fun i k σ1 H1 ⟨e, n2, Γ2, hi, a2⟩ => ?_⟩
  obtain ⟨w1, w2⟩ := a2.walk hl wk
  by_cases q : i < ds.length
  · obtain ⟨g1, y1⟩ := w1 i _ (List.getElem?_eq_getElem q)
    refine .inr ⟨g1, fun σ' H' => ∃ n Γ, I (i + 1) n Γ ∧ S.At n Γ (ts0.map OT.frz ++ Δ) σ' (vs0 ++ vs) H', fun σ' H' ⟨n3, Γ3, h3, a3⟩ => ⟨k - 1, by omega, by omega, n3, Γ3, h3, a3⟩, fun x H2 hy => ?_⟩
    refine hs i n2 Γ2 _ (List.getElem?_eq_getElem q) hi _ σ1 x _ H2 _ (y1 x H2 hy) fun n3 Γ3 σ3 H3 hk a3 => ?_
    refine hk _ σ3 _ H3 _ a3 ⟨fun n Γ σ H hI a => ⟨n, Γ, hI, a⟩, fun n Γ r σ v H hr a => m.rt n Γ r σ v H hr (At.drop a hl'), fun n Γ σ H hI a => m.nx n Γ σ H hI (At.pops a hl'), fun n Γ σ H hI a => ⟨n, Γ, hI, a⟩⟩
  · have e : i = ds.length := by omega
    subst e
    exact .inl ⟨w2 _ (Nat.le_refl _), m.nx n2 Γ2 σ1 H1 (hd n2 Γ2 hi) (At.pops a2 hl')⟩
/-- while, by a word and a measure -/
theorem hs_while {c : Expr} {body : List Stmt} (I : Nat → Nat → Slots → Prop) (h0 : ∃ m, I m n Γ)
    (hs : ∀ m n Γ, I m n Γ → HT S c n Γ fun n1 Γ1 b => if b = true then HSs S body n1 Γ1 { nx := fun n Γ => ∃ m', m' < m ∧ I m' n Γ, rt := P.rt, bk := P.nx, ct := fun n Γ => ∃ m', m' < m ∧ I m' n Γ } else P.nx n1 Γ1) : HS S (.While c body [] pos) n Γ P := by
  intro Δ σ vs H D a m
  obtain ⟨m0, h0⟩ := h0
  refine ⟨_, ps_while S.po pt_c pss_c, fun k σ H => ∃ n Γ, I k n Γ ∧ S.At n Γ Δ σ vs H, ⟨m0, n, Γ, h0, a⟩, fun k σ1 H1 ⟨n1, Γ1, hi, a1⟩ => ?_⟩
  refine hs k n1 Γ1 hi Δ σ1 vs H1 _ a1 fun n2 Γ2 b H2 hk a2 => ?_
  cases b with
  | true => exact ⟨fun σ H => ∃ k' n Γ, k' < k ∧ I k' n Γ ∧ S.At n Γ Δ σ vs H, fun σ' H' ⟨k', n, Γ, h1, h2, h3⟩ => ⟨k', h1, n, Γ, h2, h3⟩,
      hk Δ σ1 vs H2 _ a2 ⟨fun n Γ σ H ⟨k', h1, h2⟩ a => ⟨k', n, Γ, h1, h2, a⟩, m.rt, m.nx, fun n Γ σ H ⟨k', h1, h2⟩ a => ⟨k', n, Γ, h1, h2, a⟩⟩⟩
  | false => exact m.nx n2 Γ2 σ1 H2 hk a2
end
end DL

set_option Elab.async false
set_option linter.all false
set_option maxRecDepth 100000
set_option maxHeartbeats 4000000
/-! DLE: what a def promises over data; calls. -/
namespace DL
open PySem PySem.Spec PyProof.Rows L2 Evl

abbrev FSpec := List OT → Nat → (Nat → List OT → OT → Prop) → (Nat → Addr → List Str → List D → Prop) → Prop
structure CallEnd (Z : Wd) (H B : Hp) (F : List Addr) (vs : List V) (n : Nat) (outs : List OT) (r : OT) (v : V) (H2 B2 : Hp) (F2 G2 : List Addr) : Prop where
  evo : Evo Z ⟨H, B, F, []⟩ H2 B2
  os : RpOs Z.K H2 B2 outs vs F2
  rr : RpO Z.K H2 B2 r v G2
  nd : ∀ a, F2.count a + G2.count a ≤ 1
  out : ∀ a, 0 < F2.count a + G2.count a → B2 a = none ∧ (H a = none ∨ a ∈ F) ∧ a ≠ Z.st ∧ a ≠ Z.cs
  str : StrOk Z n H2
  bst : BOk Z B2
  tab : TabOk Z.T H2
structure ExcEnd (Z : Wd) (H B : Hp) (F : List Addr) (n : Nat) (ns : List Str) (ds : List D) (d : Option Addr) (H2 B2 : Hp) : Prop where
  evo : Evo Z ⟨H, B, F, []⟩ H2 B2
  ex : ExD Z.K H2 B2 d ns ds
  str : StrOk Z n H2
  bst : BOk Z B2
  tab : TabOk Z.T H2
/-- the state at a call, seen by the callee -/
structure Ready (Z : Wd) (n : Nat) (as : List OT) (vs : List V) (H B : Hp) (F : List Addr) : Prop where
  sub : Ex B H
  str : StrOk Z n H
  bst : BOk Z B
  tab : TabOk Z.T H
  os : RpOs Z.K H B as vs F
  nd : ∀ a, F.count a ≤ 1
  out : ∀ a, 0 < F.count a → B a = none ∧ a ≠ Z.st ∧ a ≠ Z.cs
def SpD (Z : Wd) (ar : Nat) (sp : FSpec) : Sp := fun vs H Q E => ∃ n as B F KP XP, as.length = ar ∧ Ready Z n as vs H B F ∧ sp as n KP XP ∧
  (∀ n' outs r v H2 B2 F2 G2, KP n' outs r → CallEnd Z H B F vs n' outs r v H2 B2 F2 G2 → Q v H2) ∧ ∀ n' C ns ds d H2 B2, XP n' C ns ds → ExcEnd Z H B F n' ns ds d H2 B2 → E (.ref C) d H2
/-- the def that x names keeps sp -/
def OkF (P : Program) (w : World) (K : PySem.W.Frag) (mg : Str → Option Value) (base : Heap) (Z : Wd) (k : Nat) (x : Str) (ps : List Str) (sp : FSpec) : Prop :=
  ∃ f fd, mg x = some (.ref f) ∧ PySem.W.keepIn K (.ref f) = true ∧ Binds K fd ps [] ∧ FnOk P w K mg base (L2.CX P w) k f fd ps (SpD Z ps.length sp)
theorem OkF.mono {P : Program} {w : World} {K : PySem.W.Frag} {mg : Str → Option Value} {base : Heap} {Z : Wd} {j k : Nat} {x : Str} {ps : List Str} {sp : FSpec} (h : OkF P w K mg base Z j x ps sp) (hk : j ≤ k) : OkF P w K mg base Z k x ps sp := by
  obtain ⟨f, fd, h1, h2, h3, h4⟩ := h
  exact ⟨f, fd, h1, h2, h3, h4.mono hk⟩

section
variable {Z : Wd} {E : Ent} {n m : Nat} {Γ : Slots} {Δ rs : List OT} {σ : L2.St} {vs xs : List V} {H B H2 B2 : Hp} {F G G1 G2 G3 : List Addr}
/-- behind something that may change what was handed over -/
theorem AtB.over (h : AtB Z E n Γ (rs ++ Δ) σ (xs ++ vs) H B F G) (hG : G = G1 ++ G2) (h2 : RpOs Z.K H B Δ vs G2) (e : Evo Z ⟨H, B, G1, []⟩ H2 B2) (str : StrOk Z m H2) (bst : BOk Z B2) (tab : TabOk Z.T H2) :
    AtB Z E m Γ Δ σ vs H2 B2 F G2 := by
  have cnt : ∀ a, F.count a + (G1.count a + G2.count a) ≤ 1 := fun a => by
    have := h.nd a
    rw [hG, List.count_append] at this
    exact this
  have inG1 : ∀ a, a ∈ G1 → 0 < F.count a + G.count a := fun a ha => by
    have := List.count_pos_iff.mpr ha
    rw [hG, List.count_append]
    omega
  have keep : ∀ a, 0 < F.count a + G2.count a → ∀ o, H a = some o → H2 a = some o := fun a ha o q => by
    have hin : 0 < F.count a + G.count a := by
      rw [hG, List.count_append]
      omega
    obtain ⟨_, _, h3, h4⟩ := h.out a hin
    obtain ⟨u, e1, e2⟩ := h.thereF hin
    rw [q] at e1
    cases e1
    refine e.ex a o q (fun z => ?_) h3 h4 e2
    have := List.count_pos_iff.mpr (show a ∈ G1 from z)
    have := cnt a
    omega
  refine ⟨⟨fun a o q hm h3 h4 h5 => ?_, fun a ps q => ?_, h.evo.exB.trans e.exB, fun a q1 q2 => ?_, e.sub⟩, RpS.mono e.exB (fun a ha o q => keep a (by have := List.count_pos_iff.mpr ha; omega) o q) h.sl, RpOs.mono e.exB (fun a ha o q => keep a (by have := List.count_pos_iff.mpr ha; omega) o q) h2,
    fun a => by have := cnt a; omega, fun a ha => ?_, str, bst, tab, h.pin⟩
  · have q' := h.evo.ex a o q hm h3 h4 h5
    refine e.ex a o q' (fun z => ?_) h3 h4 h5
    rcases (h.out a (inG1 a z)).2.1 with y | y
    · rw [q] at y; cases y
    · exact hm y
  · obtain ⟨ps', q'⟩ := h.evo.tb a ps q
    exact e.tb a ps' q'
  · cases z : B a with
    | some o => exact h.evo.new a q1 (by rw [z]; exact fun y => by cases y)
    | none =>
      rcases e.new a z q2 with y | y
      · exact h.fresh y
      · exact (h.out a (inG1 a y)).2.1
  · have hin : 0 < F.count a + G.count a := by
      rw [hG, List.count_append]
      omega
    obtain ⟨h3, h4⟩ := h.out a hin
    refine ⟨?_, h4⟩
    cases z : B2 a with
    | none => rfl
    | some o =>
      rcases e.new a h3 (by rw [z]; exact fun y => by cases y) with y | y
      · obtain ⟨u, e1, _⟩ := h.thereF hin
        have y : H a = none := y
        rw [y] at e1; cases e1
      · have := List.count_pos_iff.mpr (show a ∈ G1 from y)
        have := cnt a
        omega
theorem AtB.pushO {r : OT} {v : V} (h : AtB Z E n Γ Δ σ vs H B F G) (hr : RpO Z.K H B r v G3) (nd : ∀ a, G3.count a ≤ 1) (hc : ∀ a, 0 < G3.count a → B a = none ∧ (E.H a = none ∨ a ∈ E.M) ∧ a ≠ Z.st ∧ a ≠ Z.cs ∧ F.count a = 0 ∧ G.count a = 0) :
    AtB Z E n Γ (r :: Δ) σ (v :: vs) H B F (G3 ++ G) := by
  refine ⟨h.evo, h.sl, ⟨v, vs, G3, G, rfl, rfl, hr, h.tm⟩, fun a => ?_, fun a ha => ?_, h.str, h.bst, h.tab, h.pin⟩
  · rw [List.count_append]
    have := nd a
    have := h.nd a
    by_cases q : 0 < G3.count a
    · have := hc a q
      omega
    · omega
  · rw [List.count_append] at ha
    by_cases q : 0 < G3.count a
    · obtain ⟨q1, q2, q3, q4, _⟩ := hc a q
      exact ⟨q1, q2, q3, q4⟩
    · exact h.out a (by omega)
/-- the call, seen by the caller -/
theorem AtB.call (h : AtB Z E n Γ (rs ++ Δ) σ (xs ++ vs) H B F G) (hl : xs.length = rs.length) : ∃ G1, Ready Z n rs xs H B G1 ∧
    (∀ n' outs r v H2 B2 F2 G3, CallEnd Z H B G1 xs n' outs r v H2 B2 F2 G3 → DL.At Z E n' Γ (r :: Δ) σ (v :: vs) H2) ∧
    ∀ n' ns ds d H2 B2, ExcEnd Z H B G1 n' ns ds d H2 B2 → ∃ G', AtB Z E n' Γ Δ σ vs H2 B2 F G' ∧ ExD Z.K H2 B2 d ns ds := by
  obtain ⟨ys, zs, G1, G2, e1, e2, e3, e4, e5⟩ := h.tm.split
  obtain ⟨rfl, rfl⟩ := List.append_inj e1 (hl.trans e2.symm)
  have inG1 : ∀ a, 0 < G1.count a → 0 < F.count a + G.count a := fun a ha => by rw [e3, List.count_append]; omega
  have cnt : ∀ a, F.count a + (G1.count a + G2.count a) ≤ 1 := fun a => by
    have := h.nd a
    rw [e3, List.count_append] at this
    exact this
  refine ⟨G1, ⟨h.evo.sub, h.str, h.bst, h.tab, e4, fun a => by have := cnt a; omega, fun a ha => ?_⟩, fun n' outs r v H2 B2 F2 G3 c => ?_, fun n' ns ds d H2 B2 c => ?_⟩
  · obtain ⟨h1, _, h2, h3⟩ := h.out a (inG1 a ha)
    exact ⟨h1, h2, h3⟩
  · have k := h.over e3 e5 c.evo c.str c.bst c.tab
    refine ⟨B2, F, G3 ++ G2, k.pushO c.rr (fun a => by have := c.nd a; omega) fun a ha => ?_⟩
    obtain ⟨q1, q2, q3, q4⟩ := c.out a (by omega)
    refine ⟨q1, ?_, q3, q4, ?_⟩
    · rcases q2 with y | y
      · exact h.fresh y
      · exact (h.out a (inG1 a (List.count_pos_iff.mpr y))).2.1
    · rcases q2 with y | y
      · have np : ¬ 0 < F.count a + G.count a := fun z => by
          obtain ⟨u, e, _⟩ := h.thereF z
          rw [y] at e; cases e
        rw [e3, List.count_append] at np
        omega
      · have := List.count_pos_iff.mpr y
        have := cnt a
        omega
  · exact ⟨G2, h.over e3 e5 c.evo c.str c.bst c.tab, c.ex⟩
/-- temporaries are frozen -/
theorem At.frzs : ∀ {rs : List OT} {xs : List V} {Δ : List OT} {vs : List V}, DL.At Z E n Γ (rs ++ Δ) σ (xs ++ vs) H → xs.length = rs.length → DL.At Z E n Γ (rs.map (fun r => OT.frz r.d) ++ Δ) σ (xs ++ vs) H
  | [], xs, Δ, vs, h, hl => h
  | r :: rs, [], Δ, vs, h, hl => by simp at hl
  | r :: rs, x :: xs, Δ, vs, h, hl => by
    have h1 : DL.At Z E n Γ (.frz r.d :: (rs ++ Δ)) σ (x :: (xs ++ vs)) H := At.frz1 h
    obtain ⟨B, F, G, h1⟩ := h1
    -- the first one goes behind
    obtain ⟨y, ys, F1, F2, e1, e2, e3, e4⟩ := id h1.tm
    obtain ⟨rfl, rfl⟩ := List.cons.inj e1
    have h2 : AtB Z E n Γ (rs ++ Δ) σ (xs ++ vs) H B F F2 := ⟨h1.evo, h1.sl, e4, fun a => by have := h1.nd a; rw [e2, List.count_append] at this; omega, fun a ha => h1.out a (by rw [e2, List.count_append]; omega), h1.str, h1.bst, h1.tab, h1.pin⟩
    obtain ⟨ys, zs, G1, G2, q1, q2, q3, q4, q5⟩ := h2.tm.split
    have hl' : xs.length = rs.length := by simpa using hl
    obtain ⟨rfl, rfl⟩ := List.append_inj q1 (hl'.trans q2.symm)
    have h3 : AtB Z E n Γ (rs ++ (.frz r.d :: Δ)) σ (xs ++ (x :: vs)) H B F F2 := ⟨h2.evo, h2.sl, by rw [q3]; exact RpOs.app q4 ⟨x, vs, [], G2, rfl, rfl, ⟨rfl, e3.2⟩, q5⟩, h2.nd, h2.out, h2.str, h2.bst, h2.tab, h2.pin⟩
    have h4 := At.frzs (Δ := .frz r.d :: Δ) (vs := x :: vs) ⟨B, F, F2, h3⟩ hl'
    obtain ⟨B4, F4, G4, h4⟩ := h4
    obtain ⟨G5, h5⟩ := h4.rot (by rw [List.length_map]; exact hl')
    exact ⟨B4, F4, G5, h5⟩
end

section
variable {S : Sit} {n : Nat} {Γ : Slots} {K : Nat → Slots → OT → Prop} {pos p : Pos}
/-- f(e, ..): what is handed over is frozen -/
theorem he_call {x : Str} {ps : List Str} {sp : FSpec} {k : Nat} {e : Expr} {es : List Expr} (O : OkF S.X.prog S.X.w S.X.K S.X.mg S.X.base S.Z k x ps sp) (hr : Room k S.X.A)
    (h : HA S (e :: es) n Γ fun n1 Γ1 rs => rs.length = ps.length ∧ sp (rs.map fun r => .frz r.d) n1 (fun n' _ r => K n' Γ1 r) fun n' C ns ds => S.XP n' Γ1 C ns ds) (hg : Gl S.X x := by rfl)
    (hdb : (x == ("__debug__" : Str)) = false := by decide) (he : starEach (e :: es) S.X.env = (false, eval e S.X.env) :: starEach es S.X.env := by rfl) (hpl : (backTo pos (starEach es S.X.env)).any (·.1) = false := by rfl) :
    HE S (.Call (.Name x p) (e :: es) [] pos) n Γ K := by
  obtain ⟨f, fd, o1, o2, o3, o4⟩ := O
  intro Δ σ vs H Q a q
  refine ⟨_, pe_callS o4 hr hg o1 o2 o3 (fun σ => passAt S.tk σ) pa_c hdb he hpl, h Δ σ vs H _ a fun n1 Γ1 rs xs H1 ⟨hl, hk⟩ hx a1 => ?_⟩
  obtain ⟨B, F, G, a2⟩ := a1.frzs hx
  obtain ⟨G1, c1, c2, c3⟩ := a2.call (by rw [List.length_map]; exact hx)
  refine ⟨n1, _, B, G1, _, _, by rw [List.length_map]; exact hl, c1, hk, fun n' outs r v H2 B2 F2 G2 hK c => q n' Γ1 r v H2 hK (c2 n' outs r v H2 B2 F2 G2 c), fun n' C ns ds d H2 B2 hX c => ?_⟩
  obtain ⟨G', a3, ed⟩ := c3 n' ns ds d H2 B2 c
  obtain ⟨ws, hw⟩ : ∃ ws, ws = vs := ⟨_, rfl⟩
  have a4 : ∃ G'', AtB S.Z S.E n' Γ1 [] σ [] H2 B2 F G'' := by
    have a5 : AtB S.Z S.E n' Γ1 (Δ ++ []) σ (vs ++ []) H2 B2 F G' := by rw [List.append_nil, List.append_nil]; exact a3
    obtain ⟨G'', _, a6⟩ := a5.pop (a3.tm.len)
    exact ⟨G'', a6⟩
  obtain ⟨G'', a4⟩ := a4
  have eG : G'' = [] := a4.tm.2
  rw [eG] at a4
  exact S.xo n' Γ1 C ns ds d σ H2 B2 F a4 ed hX
end

/-! ### a def keeps its promise -/
def pinsOf : List OT → List V → List (Option V)
  | [], _ => []
  | .frz _ :: as, vs => none :: pinsOf as vs.tail
  | .ol _ :: as, vs => vs.head? :: pinsOf as vs.tail
  | .ot _ :: as, vs => vs.head? :: pinsOf as vs.tail
  | .od _ _ :: as, vs => vs.head? :: pinsOf as vs.tail
  | .oo _ _ _ :: as, vs => vs.head? :: pinsOf as vs.tail
def isFrz : OT → Bool
  | .frz _ => true
  | _ => false
/-- what the handed things are in the end -/
def OutsOk : List OT → Slots → List OT → Prop
  | [], _, outs => outs = []
  | a :: as, Γ, outs => ∃ t outs', outs = t :: outs' ∧ (if isFrz a = true then t = a else Γ.head? = some (some t)) ∧ OutsOk as Γ.tail outs'
theorem outs_frz : ∀ (ds : List D) (Γ : Slots), OutsOk (ds.map OT.frz) Γ (ds.map OT.frz)
  | [], _ => rfl
  | d :: ds, Γ => ⟨_, _, rfl, rfl, outs_frz ds Γ.tail⟩
section
variable {K : PySem.W.Frag} {H B H2 B2 : Hp}
theorem RpS.start : ∀ {as : List OT} {vs : List V} {F : List Addr} (k : Nat), RpOs K H B as vs F → RpS K H B (as.map some ++ List.replicate k none) (vs.map some ++ List.replicate k none) F
  | [], vs, F, k, h => by
    rw [h.1, h.2]
    show RpS K H B (List.replicate k none) (List.replicate k none) []
    induction k with
    | zero => exact ⟨rfl, rfl⟩
    | succ k ih => exact ⟨none, _, rfl, ih⟩
  | a :: as, vs, F, k, ⟨y, ys, F1, F2, e1, e2, e3, e4⟩ => by
    rw [e1, e2]
    exact ⟨y, _, F1, F2, rfl, rfl, e3, RpS.start k e4⟩
theorem RpS.tail : ∀ {Γ : Slots} {σ : L2.St} {F : List Addr}, RpS K H B Γ σ F → ∃ F', (∀ a, F'.count a ≤ F.count a) ∧ RpS K H B Γ.tail σ.tail F'
  | [], _, F, h => ⟨F, fun a => Nat.le_refl _, by rw [h.1]; exact ⟨rfl, h.2⟩⟩
  | none :: Γ, _, F, ⟨x, σ', e1, e2⟩ => ⟨F, fun a => Nat.le_refl _, by rw [e1]; exact e2⟩
  | some t :: Γ, _, F, ⟨v, σ', F1, F2, e1, e2, e3, e4⟩ => ⟨F2, fun a => by rw [e2, List.count_append]; omega, by rw [e1]; exact e4⟩
theorem RpS.outs (eB : Ex B B2) : ∀ {as : List OT} {Γ : Slots} {σ : L2.St} {F : List Addr} {outs : List OT} {vs : List V} {F0 : List Addr}, RpS K H2 B2 Γ σ F → OutsOk as Γ outs → PinS (pinsOf as vs) σ → RpOs K H B as vs F0 →
    ∃ F2, (∀ a, F2.count a ≤ F.count a) ∧ RpOs K H2 B2 outs vs F2
  | [], _, _, F, _, _, _, h, ho, hp, hr => ⟨[], fun a => by simp, by
    rw [show _ = ([] : List OT) from ho, hr.1]
    exact ⟨rfl, rfl⟩⟩
  | a :: as, Γ, σ, F, outs, vs, F0, h, ⟨t, outs', e1, e2, e3⟩, hp, ⟨y, ys, G1, G2, q1, q2, q3, q4⟩ => by
    subst e1 q1
    cases a with
    | frz d =>
      have e2 : t = .frz d := e2
      subst e2
      obtain ⟨F', c, h'⟩ := h.tail
      obtain ⟨F2, c2, r⟩ := RpS.outs eB (as := as) (vs := ys) h' e3 hp q4
      exact ⟨F2, fun b => Nat.le_trans (c2 b) (c b), y, ys, [], F2, rfl, rfl, ⟨rfl, Rp.mono eB q3.2⟩, r⟩
    | _ =>
      have e2 : Γ.head? = some (some t) := e2
      obtain ⟨hp1, hp2⟩ := hp
      cases Γ with
      | nil => simp at e2
      | cons g Γ =>
        have e2 := Option.some.inj e2
        subst e2
        obtain ⟨v, σ', F1, F2, z1, z2, z3, z4⟩ := h
        subst z1
        have hp1 : v = y := Option.some.inj (Option.some.inj hp1)
        subst hp1
        obtain ⟨F3, c, r⟩ := RpS.outs eB (as := as) (vs := ys) z4 e3 hp2 q4
        refine ⟨F1 ++ F3, fun b => ?_, v, ys, F1, F3, rfl, rfl, z3, r⟩
        have := c b
        rw [z2]
        simp only [List.count_append]
        omega
theorem pins_start : ∀ {as : List OT} {vs : List V} {F : List Addr} (k : Nat), RpOs K H B as vs F → PinS (pinsOf as vs) (vs.map some ++ List.replicate k none)
  | [], _, _, k, h => True.intro
  | a :: as, _, _, k, ⟨y, ys, F1, F2, e1, e2, e3, e4⟩ => by
    subst e1
    cases a with
    | frz d => exact pins_start (as := as) (vs := ys) k e4
    | _ => exact ⟨rfl, pins_start (as := as) (vs := ys) k e4⟩
end
section
variable {P : Program} {w : World} {K : PySem.W.Frag} {mg : Str → Option Value} {base : Heap} {st cs : Addr} {T : List (Addr × Str)}
abbrev bodyX (P : Program) (w : World) (K : PySem.W.Frag) (mg : Str → Option Value) (base : Heap) (N : List Str) (qual : Str) (scope : Scope) (f : Addr) (cdv : Value) (A : Around) (outer : List Env) (s : Shared) (H : Hp) (EX : XK) : Cx :=
  cxOf (L2.CX P w) P w K mg base N qual scope f cdv A outer s H EX
theorem fn_sp {name qual : Str} {params : Arguments} {body : List Stmt} {scope : Scope} {f : Addr} {fd : FuncData} {N ps : List Str} {k : Nat} {sp : FSpec} (F : FunD K name qual params body scope [] [] f fd) (Sc : FnScope N ps scope)
    (hb : ∀ (cdv : Value) (A : Around) (outer : List Env) (s : Shared) (H B : Hp) (M : List Addr) (vs : List V) (EX : XK) (W : WX) (XP : XPost) (as : List OT) (n : Nat) KP XP0 tk xo po, Room k (bodyX P w K mg base N qual scope f cdv A outer s H EX).A → as.length = ps.length → vs.length = as.length → sp as n KP XP0 →
      (∀ n Γ C ns ds, XP0 n C ns ds → XP n Γ C ns ds) →
      HSs (Sit.mk (bodyX P w K mg base N qual scope f cdv A outer s H EX) st cs T ⟨H, B, M, pinsOf as vs⟩ W XP tk xo po) body n (as.map some ++ List.replicate (N.length - ps.length) none)
        { nx := fun n' Γ' => ∃ outs, OutsOk as Γ' outs ∧ KP n' outs (.frz .non), rt := fun n' Γ' r => ∃ outs, OutsOk as Γ' outs ∧ KP n' outs r }) :
    FnOk P w K mg base (L2.CX P w) (k + 1) f fd ps (SpD ⟨K, st, cs, T⟩ ps.length sp) := by
  refine F.ok Sc (fun vs H Q EX h => ?_) (fun cdv A outer s H vs Q EX hr h => ?_)
  · obtain ⟨n, as, B, F, KP, XP, hl, rd, _⟩ := h
    rw [rd.os.len, hl]
  · obtain ⟨n, as, B, F, KP, XP0, hl, rd, hsp, hq, hx⟩ := h
    have lv : vs.length = ps.length := by rw [rd.os.len, hl]
    have evR : Evo ⟨K, st, cs, T⟩ ⟨H, B, F, pinsOf as vs⟩ H B := ⟨fun _ _ e _ _ _ _ => e, fun a ps e => ⟨ps, e⟩, Ex.refl B, fun a h1 h2 => absurd h1 h2, rd.sub⟩
    have at0 : AtB ⟨K, st, cs, T⟩ ⟨H, B, F, pinsOf as vs⟩ n (as.map some ++ List.replicate (N.length - ps.length) none) [] (L2.start N vs) [] H B F [] := by
      refine ⟨evR, ?_, ⟨rfl, rfl⟩, fun a => by have := rd.nd a; simpa using this, fun a ha => ?_, rd.str, rd.bst, rd.tab, ?_⟩
      · unfold L2.start
        rw [lv]
        exact RpS.start _ rd.os
      · have ha : 0 < F.count a := by simpa using ha
        obtain ⟨h1, h2, h3⟩ := rd.out a ha
        exact ⟨h1, .inr (List.count_pos_iff.mp ha), h2, h3⟩
      · exact pins_start _ rd.os
    have ed : ∀ {n' Γ' r σ v H2}, (∃ outs, OutsOk as Γ' outs ∧ KP n' outs r) → DL.At ⟨K, st, cs, T⟩ ⟨H, B, F, pinsOf as vs⟩ n' Γ' [r] σ [v] H2 → Q v H2 := by
      intro n' Γ' r σ v H2 ⟨outs, ho, hk⟩ ⟨B2, F2, G2, a⟩
      obtain ⟨y, ys, F3, F4, e1, e2, e3, e4⟩ := id a.tm
      obtain ⟨rfl, rfl⟩ := List.cons.inj e1
      have e5 : F4 = [] := e4.2
      subst e5
      rw [List.append_nil] at e2
      subst e2
      obtain ⟨F5, c5, os⟩ := RpS.outs a.evo.exB a.sl ho a.pin rd.os
      refine hq n' outs r v H2 B2 F5 G2 hk ⟨⟨a.evo.ex, a.evo.tb, a.evo.exB, a.evo.new, a.evo.sub⟩, os, e3, fun b => ?_, fun b hb => a.out b ?_, a.str, a.bst, a.tab⟩
      · have := a.nd b
        have := c5 b
        omega
      · have := c5 b
        omega
    have hb' := hb cdv A outer s H B F vs EX (fun cls d _ H' => EX cls d H') (fun n _ C ns ds => XP0 n C ns ds) as n KP XP0 (takes_of rfl rfl rfl rfl) (fun n Γ C ns ds d σ H2 B2 F2 a e hx0 => hx n C ns ds d H2 B2 hx0 ⟨⟨a.evo.ex, a.evo.tb, a.evo.exB, a.evo.new, a.evo.sub⟩, e, a.str, a.bst, a.tab⟩) (passes_of rfl) hr hl (by rw [lv, hl]) hsp (fun _ _ _ _ _ h => h)
    exact ⟨_, pss_c, hb' [] (L2.start N vs) [] H _ ⟨B, F, [], at0⟩ ⟨fun n' Γ' σ H2 h a => ed h (a.flat fun _ => rfl), fun n' Γ' r σ v H2 h a => ed h a, fun _ _ _ _ h => h.elim, fun _ _ _ _ h => h.elim⟩⟩
end
end DL

set_option Elab.async false
set_option linter.all false
set_option maxRecDepth 100000
set_option maxHeartbeats 4000000
/-! DLF: built-in functions, methods, subscripts, changes of owned things, comprehensions. -/
namespace DL
open PySem PySem.Spec PyProof.Rows L2 Evl

theorem tabs_upd {T : List (Addr × Str)} {H : Hp} {a : Addr} {u u' : HO} (t : TabOk T H) (ha : H a = some u) (h1 : ∀ ps, u ≠ .tbl ps) (h2 : ∀ φ, u ≠ .ext φ) (h3 : ∀ ps, u' ≠ .tbl ps) : TabOk T (upd H a u') := ⟨fun p hp => by
  obtain ⟨ps, q1, q2, q3⟩ := t.ts p hp
  refine ⟨ps, ?_, q2, fun pos cv hc => ?_⟩
  · rw [upd_ne (fun z => by rw [z, ha] at q1; exact h1 ps (Option.some.inj q1))]
    exact q1
  · obtain ⟨c, e, q⟩ := q3 pos cv hc
    refine ⟨c, e, ?_⟩
    rw [upd_ne (fun z => by rw [z, ha] at q; exact h2 _ (Option.some.inj q))]
    exact q, fun b ps e => t.all b ps (tb_new h3 b ps e)⟩
section
variable {Z : Wd} {E : Ent} {n : Nat} {Γ Γ' : Slots} {Δ rs : List OT} {σ : L2.St} {vs xs : List V} {H B : Hp} {F F' G G2 : List Addr}
/-- an owned object is written -/
theorem AtB.mutAt {a : Addr} {u u' : HO} (h : AtB Z E n Γ (rs ++ Δ) σ (xs ++ vs) H B F G) (hG : ∀ b, G2.count b ≤ G.count b) (hΔ : RpOs Z.K H B Δ vs G2) (ha : H a = some u) (hin : 0 < F.count a + G.count a) (hn : G2.count a = 0) (hu : ∀ ps, u ≠ .tbl ps) (hx : ∀ φ, u ≠ .ext φ)
    (sl : RpS Z.K (upd H a u') B Γ' σ F') (hc : ∀ b, F'.count b + G2.count b ≤ F.count b + G.count b) (hu' : ∀ ps, u' ≠ .tbl ps := by intro _ z; cases z) : AtB Z E n Γ' Δ σ vs (upd H a u') B F' G2 := by
  obtain ⟨o1, o2, o3, o4⟩ := h.out a hin
  refine ⟨⟨fun b o q hm h3 h4 h5 => ?_, fun b ps q => ?_, h.evo.exB, h.evo.new, fun b o q => ?_⟩, sl, RpOs.mono (Ex.refl B) (fun b hb o q => ?_) hΔ, fun b => by have := h.nd b; have := hc b; omega, fun b hb => h.out b (by have := hc b; omega), ?_, h.bst, tabs_upd h.tab ha hu hx hu', h.pin⟩
  · rw [upd_ne (fun z => ?_)]
    · exact h.evo.ex b o q hm h3 h4 h5
    · rw [z] at q hm
      rcases o2 with y | y
      · rw [q] at y; cases y
      · exact hm y
  · obtain ⟨ps', q'⟩ := h.evo.tb b ps q
    refine ⟨ps', ?_⟩
    rw [upd_ne (fun z => by rw [z, ha] at q'; exact hu _ (Option.some.inj q'))]
    exact q'
  · rw [upd_ne (fun z => by rw [z, o1] at q; cases q)]
    exact h.evo.sub b o q
  · rw [upd_ne (fun z => by rw [z] at hb; have := List.count_pos_iff.mpr hb; omega)]
    exact q
  · obtain ⟨ns, x, y, z, e1, e2, e3⟩ := h.str
    exact ⟨ns, x, y, z, by rw [upd_ne o3.symm]; exact e1, by rw [upd_ne o4.symm]; exact e2, e3⟩
theorem RpOs.upd {K : PySem.W.Frag} {ts : List OT} {ys : List V} {a : Addr} {u : HO} (h : RpOs K H B ts ys G) (hn : G.count a = 0) : RpOs K (upd H a u) B ts ys G :=
  RpOs.mono (Ex.refl B) (fun b hb o q => by rw [upd_ne (fun z => by rw [z] at hb; have := List.count_pos_iff.mpr hb; omega)]; exact q) h
/-- the list in a slot: what stands, and what may stand then -/
theorem AtB.mutL {i : Nat} {ts : List OT} (h : AtB Z E n Γ (rs ++ Δ) σ (xs ++ vs) H B F G) (hl : xs.length = rs.length) (e : Γ[i]? = some (some (.ol ts))) :
    ∃ a ys G1 Gr, σ[i]? = some (some (.ref a)) ∧ H a = some (.lst ys) ∧ RpOs Z.K H B ts ys G1 ∧ RpOs Z.K H B rs xs Gr ∧ G1.count a = 0 ∧ Gr.count a = 0 ∧
      ∀ (ts' : List OT) (ys' : List V) (G1' : List Addr), RpOs Z.K H B ts' ys' G1' → (∀ b, G1'.count b ≤ G1.count b + Gr.count b) → ∃ F' G', AtB Z E n (Γ.set i (some (.ol ts'))) Δ σ vs (upd H a (.lst ys')) B F' G' := by
  obtain ⟨v, F1, F2, F3, h1, h2, h3, h4, _⟩ := h.sl.at e
  obtain ⟨a, ys, G1, rfl, e2, e3, e4⟩ := h3
  obtain ⟨ws, zs, Gr, G2, q1, q2, q3, q4, q5⟩ := h.tm.split
  obtain ⟨rfl, rfl⟩ := List.append_inj q1 (hl.trans q2.symm)
  have cnt : ∀ b, F1.count b + ((if a = b then 1 else 0) + G1.count b + F3.count b) + (Gr.count b + G2.count b) ≤ 1 := fun b => by
    have := h.nd b
    rw [h2, e2, q3] at this
    simp only [List.count_append, List.count_cons, beq_iff_eq] at this
    omega
  have ca := cnt a
  rw [if_pos rfl] at ca
  refine ⟨a, ys, G1, Gr, h1, e3, e4, q4, by omega, by omega, fun ts' ys' G1' hr hc => ?_⟩
  refine ⟨F1 ++ ((a :: G1') ++ F3), G2, h.mutAt (fun b => by rw [q3, List.count_append]; omega) q5 e3 (by rw [h2, e2]; simp only [List.count_append, List.count_cons]; simp; omega) (by omega) (fun _ z => by cases z) (fun _ z => by cases z) (h4 (Ex.refl B) (fun b hb o q => ?_) _ _ ⟨a, ys', G1', rfl, rfl, upd_same, hr.upd (by have := hc a; omega)⟩) fun b => ?_⟩
  · rw [upd_ne (fun z => ?_)]
    · exact q
    · rw [z] at hb
      have hb2 : 0 < (F1 ++ F3).count a := List.count_pos_iff.mpr hb
      rw [List.count_append] at hb2
      omega
  · have := hc b
    rw [h2, e2, q3]
    simp only [List.count_append, List.count_cons]
    omega
end

section
variable {S : Sit} {n : Nat} {Γ : Slots} {K : Nat → Slots → OT → Prop} {pos p cpos apos : Pos}
theorem one_of {α : Type} {xs : List α} (h : xs.length = 1) : ∃ x, xs = [x] := by
  match xs, h with
  | [x], _ => exact ⟨x, rfl⟩
theorem two_of {α : Type} {xs : List α} (h : xs.length = 2) : ∃ x y, xs = [x, y] := by
  match xs, h with
  | [x, y], _ => exact ⟨x, y, rfl⟩
/-- x.append(e), x an owned list's name -/
theorem he_append (i : Nat) {x : Str} {e : Expr} {ts0 : List OT} (h0 : Γ[i]? = some (some (.ol ts0)))
    (h : HE S e n Γ fun n1 Γ1 r => ∃ ts, Γ1[i]? = some (some (.ol ts)) ∧ ts.length < 100000 ∧ K n1 (Γ1.set i (some (.ol (ts ++ [r])))) (.frz .non))
    (hN : S.X.N[i]? = some x) (hv : Vis S.X.env.scope x) (hd : (x == ("__debug__" : Str)) = false := by decide) (hcd : (x == ("__classdict__" : Str)) = false := by decide)
    (hbase : attributeBase (.Name x p) "append" S.X.env (eval (.Name x p) S.X.env) = eval (.Name x p) S.X.env := by rfl)
    (hfew : ((backTo cpos (starEach (e :: []) S.X.env)).all (fun x => !x.1) && (backToKw cpos (keywordEach [] S.X.env)).all (fun x => x.1.isSome)
      && decide ((e :: []).length + ([] : List Keyword).length + (if ([] : List Keyword).isEmpty then 0 else 1) < 30)) = true := by rfl)
    (hline : (apos.endLine == cpos.line) = true := by rfl) (hs : starEach (e :: []) S.X.env = (false, eval e S.X.env) :: starEach [] S.X.env := by rfl) (hplain : (backTo cpos (starEach [] S.X.env)).any (·.1) = false := by rfl) :
    HE S (.Call (.Attribute (.Name x p) "append" apos) [e] [] cpos) n Γ K := by
  intro Δ σ vs H Q at0 q
  refine ⟨_, pe_bm PySem.F.plainAttrs_list PySem.F.slot_list_append PySem.F.type_list_append mt_append (pe_var hN hv hd hcd) (pa_cons pe_c pa_nil hs) hbase hfew hline hs hplain, ?_⟩
  obtain ⟨B, F, G, a0⟩ := id at0
  obtain ⟨v, F1, F2, F3, h1, h2, ⟨a, ys, G1, rfl, e2, e3, e4⟩, _⟩ := a0.sl.at h0
  refine ⟨_, h1, .inl ⟨rfl, ys, .of e3⟩, h Δ σ vs H _ at0 fun n1 Γ1 r y H1 ⟨ts, hΓ, hz, hk⟩ a1 => ?_⟩
  obtain ⟨B1, F1', G1', a1⟩ := a1
  obtain ⟨b, zs, G4, Gr, k1, k2, k3, k4, k5, k6, k7⟩ := AtB.mutL (rs := [r]) (xs := [y]) a1 rfl hΓ
  obtain rfl : a = b := V.ref.inj (Option.some.inj (Option.some.inj (h1.symm.trans k1)))
  refine ⟨a, zs, y, rfl, rfl, k2, sz_lt (by rw [k3.len]; exact hz), ?_⟩
  obtain ⟨F9, G9, a9⟩ := k7 (ts ++ [r]) (zs ++ [y]) (G4 ++ Gr) (RpOs.app k3 k4) (fun b => by rw [List.count_append]; omega)
  exact q n1 _ _ .non _ hk (At.flat ⟨_, _, _, a9⟩ fun _ => rfl)

/-! ### built-in functions -/
def cF (X : Cx) (v : Value) : List V → Hp → VK → Prop := fun xs H Q => ∃ r, CallR X v r ∧ r xs H Q
theorem call_cF {X : Cx} {v : Value} : CallR X v (cF X v) := fun pins s σ H xs us Q I r ⟨t, ht, h⟩ => ht pins s σ H xs us Q I r h
def HF (S : Sit) (v : Value) (rs : List OT) (n : Nat) (Γ : Slots) (K : Nat → Slots → OT → Prop) : Prop :=
  ∀ Δ σ xs vs H Q, xs.length = rs.length → S.At n Γ (rs ++ Δ) σ (xs ++ vs) H → (∀ n' Γ' r v H2, K n' Γ' r → S.At n' Γ' (r :: Δ) σ (v :: vs) H2 → Q v H2) → cF S.X v xs H Q
theorem he_fun {id : String} {x : Str} {e : Expr} {es : List Expr} (hv : bootBuiltins x = some (.builtin id)) (hm : S.X.mg x = none) (h : HA S (e :: es) n Γ fun n1 Γ1 rs => HF S (.builtin id) rs n1 Γ1 K)
    (hg : Gl S.X x := by rfl) (hn : x ≠ "__name__" := by decide) (hdb : (x == ("__debug__" : Str)) = false := by decide)
    (he : starEach (e :: es) S.X.env = (false, eval e S.X.env) :: starEach es S.X.env := by rfl) (hpl : (backTo pos (starEach es S.X.env)).any (·.1) = false := by rfl) : HE S (.Call (.Name x p) (e :: es) [] pos) n Γ K := by
  intro Δ σ vs H Q at0 q
  exact ⟨_, pe_callB call_cF hg hm hv pa_c hn hdb he hpl, h Δ σ vs H _ at0 fun n1 Γ1 rs xs H1 hk hl a1 => hk Δ σ xs vs H1 Q hl a1 q⟩
theorem he_type {T : String} {x : Str} {e : Expr} {es : List Expr} (hv : bootBuiltins x = some (.type T)) (hm : S.X.mg x = none) (h : HA S (e :: es) n Γ fun n1 Γ1 rs => HF S (.type T) rs n1 Γ1 K)
    (hg : Gl S.X x := by rfl) (hn : x ≠ "__name__" := by decide) (hdb : (x == ("__debug__" : Str)) = false := by decide)
    (he : starEach (e :: es) S.X.env = (false, eval e S.X.env) :: starEach es S.X.env := by rfl) (hpl : (backTo pos (starEach es S.X.env)).any (·.1) = false := by rfl) : HE S (.Call (.Name x p) (e :: es) [] pos) n Γ K := by
  intro Δ σ vs H Q at0 q
  exact ⟨_, pe_callTy call_cF hg hm hv pa_c hn hdb he hpl, h Δ σ vs H _ at0 fun n1 Γ1 rs xs H1 hk hl a1 => hk Δ σ xs vs H1 Q hl a1 q⟩
/-- a built-in type as a value -/
theorem he_ty {T : String} {x : Str} (hv : bootBuiltins x = some (.type T)) (hm : S.X.mg x = none) (k : K n Γ (.frz (.opq (.ty T)))) (hg : Gl S.X x := by rfl) (hn : x ≠ "__name__" := by decide) (hdb : (x == ("__debug__" : Str)) = false := by decide) : HE S (.Name x pos) n Γ K :=
  he_con (v := .ty T) (pe_bltn hg hm hv rfl hn hdb) (fun _ => by exact rfl) k
theorem At.val1 {Z : Wd} {E : Ent} {Δ : List OT} {σ : L2.St} {vs xs : List V} {H : Hp} {d : D} (hl : xs.length = 1) (a : DL.At Z E n Γ ([.frz d] ++ Δ) σ (xs ++ vs) H) : ∃ x B, xs = [x] ∧ Ex B H ∧ Rp Z.K B d x ∧ DL.At Z E n Γ Δ σ vs H := by
  obtain ⟨x, rfl⟩ := one_of hl
  obtain ⟨B, h1, h2⟩ := At.val a
  exact ⟨x, B, rfl, h1, h2, At.pop a⟩

/-! ### kinds -/
def tyD : D → Option String
  | .non => some "NoneType"
  | .bl _ => some "bool"
  | .int _ => some "int"
  | .str _ => some "str"
  | .lst _ => some "list"
  | .tup _ => some "tuple"
  | .dct _ _ => some "dict"
  | _ => none
theorem ty_of {KK : PySem.W.Frag} {H B : Hp} {d : D} {v : V} {T : String} (e : Ex B H) (h : Rp KK B d v) (ht : tyD d = some T) : TyX KK H v (.type T) := by
  cases d with
  | non => cases h; cases ht; exact .base .non
  | bl b => cases h; cases ht; exact .base (.bl b)
  | int i => cases h; cases ht; exact .base (.int i)
  | str x => cases h; cases ht; exact .base (.str x)
  | lst ds =>
    obtain ⟨a, xs, rfl, e2, _⟩ := h
    cases ht
    exact .base (.lst (e _ _ e2))
  | tup ds =>
    obtain ⟨a, xs, rfl, e2, _⟩ := h
    cases ht
    rcases e2 with (e2 | ⟨o, e2⟩) | ⟨o, its, m, e2, e3, _⟩
    · exact .base (.tup (e _ _ e2))
    · exact .fTuple (e _ _ e2)
    · exact .kTuple e2 e3
  | dct ks ds =>
    obtain ⟨a, xs, rfl, _, kk, _, _, e2⟩ := h
    cases ht
    exact .base (.dK (e _ _ e2))
  | obj C ns ds => cases ht
  | opq v => cases ht
theorem hf_isi {d : D} {t T : String} {b : Bool} (ht : tyD d = some t) (hk : kitB t T = some b) (k : K n Γ (.frz (.bl b))) : HF S (.builtin "isinstance") [.frz d, .frz (.opq (.ty T))] n Γ K := by
  intro Δ σ xs vs H Q hl a q
  obtain ⟨x, y, rfl⟩ := two_of hl
  obtain ⟨B, h1, h2⟩ := At.val a
  obtain ⟨B', h3, h4⟩ := At.val (At.pop a)
  have h4 : y = .ty T := h4
  subst h4
  exact ⟨_, call_isi, x, .ty T, .type t, .type T, b, rfl, .ty T, ty_of h1 h2 ht, kit_ty hk, q n Γ _ (.bl b) H k ((At.pop (At.pop a)).flat fun _ => rfl)⟩
def kitA (t : String) : List String → Option Bool
  | [] => some false
  | T :: Ts => match kitB t T with
    | some true => some true
    | some false => kitA t Ts
    | none => none
theorem kitA_ok {KK : PySem.W.Frag} {t : String} : ∀ {Ts : List String} {b : Bool}, kitA t Ts = some b → PySem.W.kitAny KK (.type t) (Ts.map Value.type) = some b
  | [], b, h => by cases h; exact kitAny_nil
  | T :: Ts, b, h => by
    unfold kitA at h
    cases q : kitB t T with
    | none => rw [q] at h; cases h
    | some c =>
      rw [q] at h
      cases c with
      | true =>
        cases h
        have z := kit_ty (K := KK) q
        simp only [List.map_cons, PySem.W.kitAny, z]
      | false => exact kitAny_cons (kit_ty q) (fun _ => kitA_ok (show kitA t Ts = some b from h)) (fun z => by cases z)
theorem clsV_all : ∀ (Ts : List String), Paired ClsV (Ts.map V.ty) (Ts.map Value.type)
  | [] => .nil
  | T :: Ts => .cons (.ty T) (clsV_all Ts)
theorem opq_inv {KK : PySem.W.Frag} {H B : Hp} : ∀ {us : List V} {ys : List V} {G : List Addr}, RpOs KK H B (us.map fun u => .frz (.opq u)) ys G → ys = us
  | [], _, _, h => h.1
  | u :: us, _, _, ⟨y, ys, F1, F2, e1, e2, e3, e4⟩ => by
    rw [e1, opq_inv (us := us) e4, show y = u from e3.2]
theorem hf_isiT {d : D} {t : String} {Ts : List String} {b : Bool} (ht : tyD d = some t) (hk : kitA t Ts = some b) (k : K n Γ (.frz (.bl b))) : HF S (.builtin "isinstance") [.frz d, .ot (Ts.map fun T => .frz (.opq (.ty T)))] n Γ K := by
  intro Δ σ xs vs H Q hl a q
  obtain ⟨x, y, rfl⟩ := two_of hl
  obtain ⟨B, h1, h2⟩ := At.val a
  have a2 := At.pop a
  obtain ⟨B2, F2, G2, a3⟩ := id a2
  obtain ⟨y', ys, G3, G4, e1, e2, ⟨tp, cs, G5, rfl, e4, e5, e6⟩, e7⟩ := a3.tm
  obtain ⟨rfl, rfl⟩ := List.cons.inj e1
  have e8 : cs = Ts.map V.ty := by
    have := opq_inv (us := Ts.map V.ty) (by rw [List.map_map]; exact e6)
    exact this
  rw [e8] at e5
  exact ⟨_, call_isiT, x, tp, Ts.map V.ty, .type t, Ts.map Value.type, b, rfl, e5, clsV_all Ts, ty_of h1 h2 ht, kitA_ok hk, q n Γ _ (.bl b) H k ((At.pop a2).flat fun _ => rfl)⟩

/-! ### len, list, tuple -/
theorem hf_lenS {x : Str} (k : x.length ≤ sizeLine ∧ K n Γ (.frz (.int x.length))) : HF S (.builtin "len") [.frz (.str x)] n Γ K := by
  intro Δ σ xs vs H Q hl a q
  obtain ⟨v, B, rfl, h1, h2, a2⟩ := At.val1 hl a
  have h2 : v = .str x := h2
  subst h2
  exact ⟨_, call_len, _, x.length, rfl, ⟨k.1, rfl⟩, q n Γ _ _ H k.2 (a2.flat fun _ => rfl)⟩
theorem hf_lenL {ds : List D} (k : K n Γ (.frz (.int ds.length))) : HF S (.builtin "len") [.frz (.lst ds)] n Γ K := by
  intro Δ σ xs vs H Q hl a q
  obtain ⟨v, B, rfl, h1, ⟨b, ys, rfl, h2, h3⟩, a2⟩ := At.val1 hl a
  exact ⟨_, call_len_seq, b, ys, rfl, .inl (SqL.of (h1 _ _ h2)), q n Γ _ _ H k (a2.flat fun _ => by rw [h3.len]; exact rfl)⟩
theorem hf_lenT {ds : List D} (k : K n Γ (.frz (.int ds.length))) : HF S (.builtin "len") [.frz (.tup ds)] n Γ K := by
  intro Δ σ xs vs H Q hl a q
  obtain ⟨v, B, rfl, h1, ⟨b, ys, rfl, h2, h3⟩, a2⟩ := At.val1 hl a
  exact ⟨_, call_len_seq, b, ys, rfl, .inr (ex_t h1 h2), q n Γ _ _ H k (a2.flat fun _ => by rw [h3.len]; exact rfl)⟩
end
end DL

set_option Elab.async false
set_option linter.all false
set_option maxRecDepth 100000
set_option maxHeartbeats 4000000
/-! DLG: reading what is owned; kinds; subscripts, slices, tests. -/
namespace DL
open PySem PySem.Spec PyProof.Rows L2 Evl

/-! ### an expression that only reads: what is owned is seen as frozen -/
def frzS (Γ : Slots) : Slots := Γ.map (Option.map fun t => .frz t.d)
theorem RpS.frzAll {K : PySem.W.Frag} {H B B' : Hp} (e : Ex B B') : ∀ {Γ : Slots} {σ : L2.St} {F : List Addr}, (∀ a ∈ F, B' a = H a) → RpS K H B Γ σ F → RpS K H B' (frzS Γ) σ []
  | [], _, _, _, h => ⟨h.1, rfl⟩
  | none :: Γ, _, _, k, ⟨x, σ', e1, e2⟩ => ⟨x, σ', e1, RpS.frzAll e k e2⟩
  | some t :: Γ, _, _, k, ⟨v, σ', F1, F2, e1, e2, e3, e4⟩ => ⟨v, σ', [], [], e1, rfl, ⟨rfl, RpO.freeze e (fun b hb => k b (by rw [e2]; exact List.mem_append_left _ hb)) e3⟩, RpS.frzAll e (fun b hb => k b (by rw [e2]; exact List.mem_append_right _ hb)) e4⟩
def flatD : D → Bool
  | .non => true
  | .bl _ => true
  | .int _ => true
  | .str _ => true
  | .opq _ => true
  | _ => false
mutual
/-- new, with nothing frozen but flat things in it -/
def bare : OT → Bool
  | .frz d => flatD d
  | .ol ts => bares ts
  | .ot ts => bares ts
  | .od _ ts => bares ts
  | .oo _ _ ts => bares ts
def bares : List OT → Bool
  | [] => true
  | t :: ts => bare t && bares ts
end
theorem Rp.flat {K : PySem.W.Frag} {B B' : Hp} {d : D} {v : V} (h : flatD d = true) (r : Rp K B d v) : Rp K B' d v := by
  cases d <;> first | exact r | cases h
mutual
theorem RpO.bare {K : PySem.W.Frag} {H B B' : Hp} : ∀ {t : OT} {v : V} {F : List Addr}, DL.bare t = true → RpO K H B t v F → RpO K H B' t v F
  | .frz d, _, _, hb, ⟨h1, h2⟩ => ⟨h1, Rp.flat hb h2⟩
  | .ol ts, _, _, hb, ⟨a, xs, G, e1, e2, e3, e4⟩ => ⟨a, xs, G, e1, e2, e3, RpOs.bare hb e4⟩
  | .ot ts, _, _, hb, ⟨a, xs, G, e1, e2, e3, e4⟩ => ⟨a, xs, G, e1, e2, e3, RpOs.bare hb e4⟩
  | .od ks ts, _, _, hb, ⟨a, xs, G, e1, e2, e3, e4⟩ => ⟨a, xs, G, e1, e2, RpOs.bare hb e3, e4⟩
  | .oo C ns ts, _, _, hb, ⟨a, dx, xs, G, e1, e2, e3, e4, e5, e6⟩ => ⟨a, dx, xs, G, e1, e2, e3, e4, e5, RpOs.bare hb e6⟩
theorem RpOs.bare {K : PySem.W.Frag} {H B B' : Hp} : ∀ {ts : List OT} {xs : List V} {F : List Addr}, bares ts = true → RpOs K H B ts xs F → RpOs K H B' ts xs F
  | [], _, _, _, h => h
  | t :: ts, _, _, hb, ⟨y, ys, F1, F2, e1, e2, e3, e4⟩ => by
    have hb : (DL.bare t && bares ts) = true := hb
    rw [Bool.and_eq_true] at hb
    exact ⟨y, ys, F1, F2, e1, e2, RpO.bare hb.1 e3, RpOs.bare hb.2 e4⟩
end
section
variable {Z : Wd} {E : Ent} {n n' : Nat} {Γ Γ' : Slots} {Δ Δ' : List OT} {σ σ' : L2.St} {vs vs' : List V} {H B H2 B2 : Hp} {F G F2 G2 : List Addr}
/-- the state seen as frozen -/
def Ent.now (E : Ent) (H B : Hp) (F : List Addr) : Ent := ⟨H, frzB H B F, [], E.P⟩
theorem AtB.freezeAll (h : AtB Z E n Γ Δ σ vs H B F G) : AtB Z (E.now H B F) n (frzS Γ) [] σ [] H (frzB H B F) [] [] := by
  have eB : Ex B (frzB H B F) := frzB_ex fun a ha => (h.out a (by have := List.count_pos_iff.mpr ha; omega)).1
  refine ⟨⟨fun _ _ e _ _ _ _ => e, fun a ps e => ⟨ps, e⟩, Ex.refl _, fun a h1 h2 => absurd h1 h2, frzB_sub h.evo.sub⟩, RpS.frzAll eB (fun a ha => frzB_in ha) h.sl, ⟨rfl, rfl⟩, fun a => by simp, fun a ha => by simp at ha, h.str, ?_, h.tab, h.pin⟩
  refine ⟨?_, ?_, fun a ps e => ?_⟩
  · rw [frzB_out (fun z => (h.out _ (by have := List.count_pos_iff.mpr z; omega)).2.2.1 rfl)]
    exact h.bst.1
  · rw [frzB_out (fun z => (h.out _ (by have := List.count_pos_iff.mpr z; omega)).2.2.2 rfl)]
    exact h.bst.2
  · by_cases q : a ∈ F
    · rw [frzB_in q] at e
      obtain ⟨u, e1, e2⟩ := h.thereF (a := a) (by have := List.count_pos_iff.mpr q; omega)
      rw [e] at e1
      exact e2 ps (Option.some.inj e1).symm
    · rw [frzB_out q] at e
      exact h.bst.nt a ps e
/-- two parts of a way -/
theorem AtB.comp (h : AtB Z E n Γ Δ σ vs H B F G) (k : AtB Z (E.now H B F) n' Γ' Δ' σ' vs' H2 B2 F2 G2) : AtB Z E n' Γ' Δ' σ' vs' H2 B2 F2 G2 := by
  have eB : Ex B (frzB H B F) := frzB_ex fun a ha => (h.out a (by have := List.count_pos_iff.mpr ha; omega)).1
  refine ⟨⟨fun a o e hm h1 h2 h3 => k.evo.ex a o (h.evo.ex a o e hm h1 h2 h3) (fun z => by cases z) h1 h2 h3, fun a ps e => ?_, h.evo.exB.trans (eB.trans k.evo.exB), fun a h1 h2 => ?_, k.evo.sub⟩, k.sl, k.tm, k.nd, fun a ha => ?_, k.str, k.bst, k.tab, k.pin⟩
  · obtain ⟨ps', q⟩ := h.evo.tb a ps e
    exact k.evo.tb a ps' q
  · cases q : frzB H B F a with
    | none =>
      rcases k.evo.new a q h2 with y | y
      · exact h.fresh y
      · cases y
    | some o =>
      by_cases hF : a ∈ F
      · exact (h.out a (by have := List.count_pos_iff.mpr hF; omega)).2.1
      · rw [frzB_out hF] at q
        exact h.evo.new a h1 (by rw [q]; exact fun z => by cases z)
  · obtain ⟨q1, q2, q3⟩ := k.out a ha
    refine ⟨q1, ?_, q3⟩
    rcases q2 with y | y
    · exact h.fresh y
    · cases y
/-- what stood stands -/
theorem AtB.back (h : AtB Z E n Γ Δ σ vs H B F G) (k : AtB Z (E.now H B F) n' Γ' Δ' σ' vs' H2 B2 F2 G2) : AtB Z E n' Γ Δ σ vs H2 B F G := by
  have eB : Ex B (frzB H B F) := frzB_ex fun a ha => (h.out a (by have := List.count_pos_iff.mpr ha; omega)).1
  have keep : ∀ a, 0 < F.count a + G.count a → ∀ o, H a = some o → H2 a = some o := fun a ha o q => by
    obtain ⟨_, _, h3, h4⟩ := h.out a ha
    obtain ⟨u, e1, e2⟩ := h.thereF ha
    rw [q] at e1
    cases e1
    exact k.evo.ex a o q (fun z => by cases z) h3 h4 e2
  refine ⟨⟨fun a o e hm h1 h2 h3 => k.evo.ex a o (h.evo.ex a o e hm h1 h2 h3) (fun z => by cases z) h1 h2 h3, fun a ps e => ?_, h.evo.exB, h.evo.new, (eB.trans k.evo.exB).trans k.evo.sub⟩, RpS.mono (Ex.refl B) (fun a ha => keep a (by have := List.count_pos_iff.mpr ha; omega)) h.sl, RpOs.mono (Ex.refl B) (fun a ha => keep a (by have := List.count_pos_iff.mpr ha; omega)) h.tm, h.nd, h.out, k.str, h.bst, k.tab, h.pin⟩
  obtain ⟨ps', q⟩ := h.evo.tb a ps e
  exact k.evo.tb a ps' q
theorem AtB.backR (h : AtB Z E n Γ Δ σ vs H B F G) {r : OT} {v : V} (k : AtB Z (E.now H B F) n' Γ' [r] σ' [v] H2 B2 F2 G2) (hb : bare r = true) : DL.At Z E n' Γ (r :: Δ) σ (v :: vs) H2 := by
  have h2 := h.back k
  obtain ⟨y, ys, G3, G4, e1, e2, e3, e4⟩ := k.tm
  obtain ⟨rfl, rfl⟩ := List.cons.inj e1
  have nn : ∀ a, 0 < G3.count a → H a = none ∧ B a = none ∧ a ≠ Z.st ∧ a ≠ Z.cs := fun a z => by
    obtain ⟨_, q2, q3, q4⟩ := k.out a (by rw [e2, List.count_append]; omega)
    have q2 : H a = none := by
      rcases q2 with y | y
      · exact y
      · cases y
    exact ⟨q2, fresh_back h.evo.sub q2, q3, q4⟩
  have nf : ∀ a, 0 < G3.count a → ¬ 0 < F.count a + G.count a := fun a z y => by
    obtain ⟨u, e, _⟩ := h.thereF y
    rw [(nn a z).1] at e; cases e
  refine ⟨B, F, G3 ++ G, h2.evo, h2.sl, ⟨v, vs, G3, G, rfl, rfl, RpO.bare hb e3, h2.tm⟩, fun a => ?_, fun a ha => ?_, h2.str, h2.bst, h2.tab, h2.pin⟩
  · have c1 := k.nd a
    rw [e2, List.count_append] at c1
    have c2 := h.nd a
    rw [List.count_append]
    by_cases z : 0 < G3.count a
    · have := nf a z
      omega
    · omega
  · rw [List.count_append] at ha
    by_cases z : 0 < G3.count a
    · obtain ⟨q1, q2, q3⟩ := nn a z
      exact ⟨q2, h.fresh q1, q3⟩
    · exact h.out a (by omega)
end
/-- the place of a body, seen from a point within -/
def Sit.at (S : Sit) (E' : Ent) (xo : XOk ⟨S.X.K, S.st, S.cs, S.T⟩ E' S.XP S.W) : Sit := ⟨S.X, S.st, S.cs, S.T, E', S.W, S.XP, S.tk, xo, S.po⟩
section
variable {S : Sit} {n : Nat} {Γ : Slots} {K : Nat → Slots → OT → Prop} {KB : Nat → Slots → Bool → Prop} {pos p : Pos}
theorem xo_now {Δ : List OT} {σ : L2.St} {vs : List V} {H B : Hp} {F G : List Addr} (h : AtB S.Z S.E n Γ Δ σ vs H B F G) : XOk ⟨S.X.K, S.st, S.cs, S.T⟩ (S.E.now H B F) S.XP S.W :=
  fun n' Γ' C ns ds d σ' H2 B2 F2 a e hx => S.xo n' Γ' C ns ds d σ' H2 B2 F2 (h.comp a) e hx
theorem he_bor {e : Expr} (h : ∀ E' xo', E'.P = S.E.P → HE (S.at E' xo') e n (frzS Γ) fun n' _ r => bare r = true ∧ K n' Γ r) : HE S e n Γ K := by
  intro Δ σ vs H Q ⟨B, F, G, a⟩ q
  exact h (S.E.now H B F) (xo_now a) rfl [] σ [] H Q ⟨_, _, _, a.freezeAll⟩ fun n' Γ' r v H2 ⟨hb, hk⟩ ⟨B2, F2, G2, k⟩ => q n' Γ r v H2 hk (a.backR k hb)
theorem ht_bor {e : Expr} (h : ∀ E' xo', E'.P = S.E.P → HT (S.at E' xo') e n (frzS Γ) fun n' _ r => KB n' Γ r) : HT S e n Γ KB := by
  intro Δ σ vs H Q ⟨B, F, G, a⟩ q
  exact h (S.E.now H B F) (xo_now a) rfl [] σ [] H Q ⟨_, _, _, a.freezeAll⟩ fun n' Γ' r H2 hk ⟨B2, F2, G2, k⟩ => q n' Γ r H2 hk ⟨_, _, _, a.back k⟩
end
end DL

set_option Elab.async false
set_option linter.all false
set_option maxRecDepth 100000
set_option maxHeartbeats 4000000
/-! DLH: kinds; subscripts, slices, tests. -/
namespace DL
open PySem PySem.Spec PyProof.Rows L2 Evl

/-! ### kinds -/
def isT (Ts : List String) (d : D) : Bool := match tyD d with
  | some t => (kitA t Ts).getD false
  | none => false
def plain (d : D) : Bool := (tyD d).isSome
def seven : List String := ["NoneType", "bool", "int", "str", "list", "tuple", "dict"]
theorem kit_all {d : D} {Ts : List String} (hp : plain d = true) (hk : seven.all (fun t => (kitA t Ts).isSome) = true) : ∃ t, tyD d = some t ∧ kitA t Ts = some (isT Ts d) := by
  have k : ∀ t, t ∈ seven → kitA t Ts = some ((kitA t Ts).getD false) := fun t ht => by
    have := List.all_eq_true.mp hk t ht
    obtain ⟨b, hb⟩ := Option.isSome_iff_exists.mp this
    rw [hb]; rfl
  cases d with
  | non => exact ⟨_, rfl, k _ (by decide)⟩
  | bl b => exact ⟨_, rfl, k _ (by decide)⟩
  | int b => exact ⟨_, rfl, k _ (by decide)⟩
  | str b => exact ⟨_, rfl, k _ (by decide)⟩
  | lst b => exact ⟨_, rfl, k _ (by decide)⟩
  | tup b => exact ⟨_, rfl, k _ (by decide)⟩
  | dct b c => exact ⟨_, rfl, k _ (by decide)⟩
  | obj C ns vs => cases hp
  | opq v => cases hp
theorem kitA_one {t T : String} {b : Bool} (h : kitA t [T] = some b) : kitB t T = some b := by
  unfold kitA at h
  cases q : kitB t T with
  | none => rw [q] at h; cases h
  | some c =>
    rw [q] at h
    cases c with
    | true => cases h; rfl
    | false => cases h; rfl
section
variable {S : Sit} {n : Nat} {Γ : Slots} {K : Nat → Slots → OT → Prop} {KB : Nat → Slots → Bool → Prop} {pos p p2 : Pos}
theorem hf_isK1 {d : D} {T : String} (hp : plain d = true) (k : K n Γ (.frz (.bl (isT [T] d)))) (hk : seven.all (fun t => (kitA t [T]).isSome) = true := by decide +kernel) : HF S (.builtin "isinstance") [.frz d, .frz (.opq (.ty T))] n Γ K := by
  obtain ⟨t, h1, h2⟩ := kit_all hp hk
  exact hf_isi h1 (kitA_one h2) k
theorem hf_isK {d : D} {Ts : List String} (hp : plain d = true) (k : K n Γ (.frz (.bl (isT Ts d)))) (hk : seven.all (fun t => (kitA t Ts).isSome) = true := by decide +kernel) : HF S (.builtin "isinstance") [.frz d, .ot (Ts.map fun T => .frz (.opq (.ty T)))] n Γ K := by
  obtain ⟨t, h1, h2⟩ := kit_all hp hk
  exact hf_isiT h1 h2 k

end
def isRow : D → Bool
  | .lst _ => true
  | .tup _ => true
  | _ => false
theorem T_isRow (d : D) : isT ["list", "tuple"] d = isRow d := by
  cases d with
  | non  => exact (show (kitA "NoneType" ["list", "tuple"]).getD false = false by decide +kernel)
  | bl b => exact (show (kitA "bool" ["list", "tuple"]).getD false = false by decide +kernel)
  | int b => exact (show (kitA "int" ["list", "tuple"]).getD false = false by decide +kernel)
  | str b => exact (show (kitA "str" ["list", "tuple"]).getD false = false by decide +kernel)
  | lst b => exact (show (kitA "list" ["list", "tuple"]).getD false = true by decide +kernel)
  | tup b => exact (show (kitA "tuple" ["list", "tuple"]).getD false = true by decide +kernel)
  | dct b c => exact (show (kitA "dict" ["list", "tuple"]).getD false = false by decide +kernel)
  | obj C ns vs => rfl
  | opq v => rfl
def isLst : D → Bool
  | .lst _ => true
  | _ => false
theorem T_isLst (d : D) : isT ["list"] d = isLst d := by
  cases d with
  | non  => exact (show (kitA "NoneType" ["list"]).getD false = false by decide +kernel)
  | bl b => exact (show (kitA "bool" ["list"]).getD false = false by decide +kernel)
  | int b => exact (show (kitA "int" ["list"]).getD false = false by decide +kernel)
  | str b => exact (show (kitA "str" ["list"]).getD false = false by decide +kernel)
  | lst b => exact (show (kitA "list" ["list"]).getD false = true by decide +kernel)
  | tup b => exact (show (kitA "tuple" ["list"]).getD false = false by decide +kernel)
  | dct b c => exact (show (kitA "dict" ["list"]).getD false = false by decide +kernel)
  | obj C ns vs => rfl
  | opq v => rfl
def isTup : D → Bool
  | .tup _ => true
  | _ => false
theorem T_isTup (d : D) : isT ["tuple"] d = isTup d := by
  cases d with
  | non  => exact (show (kitA "NoneType" ["tuple"]).getD false = false by decide +kernel)
  | bl b => exact (show (kitA "bool" ["tuple"]).getD false = false by decide +kernel)
  | int b => exact (show (kitA "int" ["tuple"]).getD false = false by decide +kernel)
  | str b => exact (show (kitA "str" ["tuple"]).getD false = false by decide +kernel)
  | lst b => exact (show (kitA "list" ["tuple"]).getD false = false by decide +kernel)
  | tup b => exact (show (kitA "tuple" ["tuple"]).getD false = true by decide +kernel)
  | dct b c => exact (show (kitA "dict" ["tuple"]).getD false = false by decide +kernel)
  | obj C ns vs => rfl
  | opq v => rfl
def isInt : D → Bool
  | .int _ => true
  | .bl _ => true
  | _ => false
theorem T_isInt (d : D) : isT ["int"] d = isInt d := by
  cases d with
  | non  => exact (show (kitA "NoneType" ["int"]).getD false = false by decide +kernel)
  | bl b => exact (show (kitA "bool" ["int"]).getD false = true by decide +kernel)
  | int b => exact (show (kitA "int" ["int"]).getD false = true by decide +kernel)
  | str b => exact (show (kitA "str" ["int"]).getD false = false by decide +kernel)
  | lst b => exact (show (kitA "list" ["int"]).getD false = false by decide +kernel)
  | tup b => exact (show (kitA "tuple" ["int"]).getD false = false by decide +kernel)
  | dct b c => exact (show (kitA "dict" ["int"]).getD false = false by decide +kernel)
  | obj C ns vs => rfl
  | opq v => rfl
def isBl : D → Bool
  | .bl _ => true
  | _ => false
theorem T_isBl (d : D) : isT ["bool"] d = isBl d := by
  cases d with
  | non  => exact (show (kitA "NoneType" ["bool"]).getD false = false by decide +kernel)
  | bl b => exact (show (kitA "bool" ["bool"]).getD false = true by decide +kernel)
  | int b => exact (show (kitA "int" ["bool"]).getD false = false by decide +kernel)
  | str b => exact (show (kitA "str" ["bool"]).getD false = false by decide +kernel)
  | lst b => exact (show (kitA "list" ["bool"]).getD false = false by decide +kernel)
  | tup b => exact (show (kitA "tuple" ["bool"]).getD false = false by decide +kernel)
  | dct b c => exact (show (kitA "dict" ["bool"]).getD false = false by decide +kernel)
  | obj C ns vs => rfl
  | opq v => rfl
def isStr : D → Bool
  | .str _ => true
  | _ => false
theorem T_isStr (d : D) : isT ["str"] d = isStr d := by
  cases d with
  | non  => exact (show (kitA "NoneType" ["str"]).getD false = false by decide +kernel)
  | bl b => exact (show (kitA "bool" ["str"]).getD false = false by decide +kernel)
  | int b => exact (show (kitA "int" ["str"]).getD false = false by decide +kernel)
  | str b => exact (show (kitA "str" ["str"]).getD false = true by decide +kernel)
  | lst b => exact (show (kitA "list" ["str"]).getD false = false by decide +kernel)
  | tup b => exact (show (kitA "tuple" ["str"]).getD false = false by decide +kernel)
  | dct b c => exact (show (kitA "dict" ["str"]).getD false = false by decide +kernel)
  | obj C ns vs => rfl
  | opq v => rfl
def isDct : D → Bool
  | .dct _ _ => true
  | _ => false
theorem T_isDct (d : D) : isT ["dict"] d = isDct d := by
  cases d with
  | non  => exact (show (kitA "NoneType" ["dict"]).getD false = false by decide +kernel)
  | bl b => exact (show (kitA "bool" ["dict"]).getD false = false by decide +kernel)
  | int b => exact (show (kitA "int" ["dict"]).getD false = false by decide +kernel)
  | str b => exact (show (kitA "str" ["dict"]).getD false = false by decide +kernel)
  | lst b => exact (show (kitA "list" ["dict"]).getD false = false by decide +kernel)
  | tup b => exact (show (kitA "tuple" ["dict"]).getD false = false by decide +kernel)
  | dct b c => exact (show (kitA "dict" ["dict"]).getD false = true by decide +kernel)
  | obj C ns vs => rfl
  | opq v => rfl
def isFive : D → Bool
  | .int _ => true
  | .bl _ => true
  | .str _ => true
  | .lst _ => true
  | .tup _ => true
  | .dct _ _ => true
  | _ => false
theorem T_isFive (d : D) : isT ["int", "str", "list", "tuple", "dict"] d = isFive d := by
  cases d with
  | non  => exact (show (kitA "NoneType" ["int", "str", "list", "tuple", "dict"]).getD false = false by decide +kernel)
  | bl b => exact (show (kitA "bool" ["int", "str", "list", "tuple", "dict"]).getD false = true by decide +kernel)
  | int b => exact (show (kitA "int" ["int", "str", "list", "tuple", "dict"]).getD false = true by decide +kernel)
  | str b => exact (show (kitA "str" ["int", "str", "list", "tuple", "dict"]).getD false = true by decide +kernel)
  | lst b => exact (show (kitA "list" ["int", "str", "list", "tuple", "dict"]).getD false = true by decide +kernel)
  | tup b => exact (show (kitA "tuple" ["int", "str", "list", "tuple", "dict"]).getD false = true by decide +kernel)
  | dct b c => exact (show (kitA "dict" ["int", "str", "list", "tuple", "dict"]).getD false = true by decide +kernel)
  | obj C ns vs => rfl
  | opq v => rfl
section
variable {S : Sit} {n : Nat} {Γ : Slots} {K : Nat → Slots → OT → Prop} {KB : Nat → Slots → Bool → Prop} {pos p p2 : Pos}
/-! ### subscripts -/
theorem he_ix {a b : Expr} (h : HE S a n Γ fun n1 Γ1 x => HE S b n1 Γ1 fun n2 Γ2 y => HO2 S (cX S.X) n2 Γ2 x y K) (hs : PlainIx b := by exact fun _ _ => rfl) : HE S (.Subscript a b pos) n Γ K := by
  intro Δ σ vs H Q at0 q
  exact ⟨_, pe_ix ix_c pe_c pe_c hs, h Δ σ vs H _ at0 fun n1 Γ1 x v H1 hx at1 => hx _ σ _ H1 _ at1 fun n2 Γ2 y w H2 hy at2 => hy Δ σ v w vs H2 Q at2 q⟩
/-- an operation on two frozen things: the rule is handed the frozen heap -/
theorem ho_frz {c : R2} {d e : D} (r : ∀ (B H : Hp) (v w : V) (Q : VK), Ex B H → Rp S.X.K B d v → Rp S.X.K B e w → (∀ n' Γ' z u H2, K n' Γ' z → (∀ Δ σ vs, S.At n Γ (.frz e :: .frz d :: Δ) σ (w :: v :: vs) H → S.At n' Γ' (z :: Δ) σ (u :: vs) H2) → Q u H2) → c v w H Q) : HO2 S c n Γ (.frz d) (.frz e) K := by
  intro Δ σ v w vs H Q at0 q
  obtain ⟨B, F, G, h⟩ := id at0
  obtain ⟨y', ys, F1, F2, e1, e2, e3, e4⟩ := h.tm
  obtain ⟨rfl, rfl⟩ := List.cons.inj e1
  obtain ⟨y2, ys2, F3, F4, q1, q2, q3, q4⟩ := e4
  obtain ⟨rfl, rfl⟩ := List.cons.inj q1
  exact r B H v w Q h.evo.sub q3.2 e3.2 fun n' Γ' z u H2 hk ha => q n' Γ' z u H2 hk (ha Δ σ vs at0)
theorem atI_rp {KK : PySem.W.Frag} {B : Hp} {ds : List D} {xs : List V} {i : Int} {d : D} (h : RpL KK B ds xs) (e : atI ds i = some d) : ∃ x, atI xs i = some x ∧ Rp KK B d x := by
  unfold atI at e ⊢
  rw [h.len]
  cases q : ixN ds.length i with
  | none => rw [q] at e; cases e
  | some j =>
    rw [q] at e
    exact h.get e
/-- an item of a frozen list or tuple in the place of two temporaries -/
theorem At.item {Z : Wd} {E : Ent} {Δ : List OT} {σ : L2.St} {vs : List V} {H : Hp} {x y : OT} {v w u : V} {d : D} (h : DL.At Z E n Γ (y :: x :: Δ) σ (w :: v :: vs) H) (hr : ∀ B, (∃ F G, AtB Z E n Γ (y :: x :: Δ) σ (w :: v :: vs) H B F G) → Rp Z.K B d u) : DL.At Z E n Γ (.frz d :: Δ) σ (u :: vs) H := by
  obtain ⟨B, F, G, h⟩ := h
  have r := hr B ⟨F, G, h⟩
  obtain ⟨G1, h1⟩ := h.pop1
  obtain ⟨G2, h2⟩ := h1.pop1
  exact ⟨B, F, G2, h2.pushV r⟩
theorem AtB.tm2 {Z : Wd} {E : Ent} {Δ : List OT} {σ : L2.St} {vs : List V} {H B : Hp} {F G : List Addr} {d e : D} {v w : V} (h : AtB Z E n Γ (.frz e :: .frz d :: Δ) σ (w :: v :: vs) H B F G) : Rp Z.K B d v ∧ Rp Z.K B e w := by
  obtain ⟨y', ys, F1, F2, e1, e2, e3, e4⟩ := h.tm
  obtain ⟨rfl, rfl⟩ := List.cons.inj e1
  obtain ⟨y2, ys2, F3, F4, q1, q2, q3, q4⟩ := e4
  obtain ⟨rfl, rfl⟩ := List.cons.inj q1
  exact ⟨q3.2, e3.2⟩
theorem o_ixL {ds : List D} {i : Int} {d : D} (e : atI ds i = some d) (k : K n Γ (.frz d)) : HO2 S (cX S.X) n Γ (.frz (.lst ds)) (.frz (.int i)) K := by
  intro Δ σ v w vs H Q at0 q
  obtain ⟨B, F, G, h⟩ := id at0
  obtain ⟨⟨a, xs, rfl, h1, h2⟩, h3⟩ := h.tm2
  have h3 : w = .int i := h3
  subst h3
  obtain ⟨x, hx, rx⟩ := atI_rp h2 e
  obtain ⟨G1, k1⟩ := h.pop1
  obtain ⟨G2, k2⟩ := k1.pop1
  exact ⟨_, ix_list, a, xs, i, x, rfl, rfl, .of (h.evo.sub _ _ h1), hx, q n Γ _ x H k ⟨B, F, G2, k2.pushV rx⟩⟩
theorem o_ixT {ds : List D} {i : Int} {d : D} (e : atI ds i = some d) (k : K n Γ (.frz d)) : HO2 S (cX S.X) n Γ (.frz (.tup ds)) (.frz (.int i)) K := by
  intro Δ σ v w vs H Q at0 q
  obtain ⟨B, F, G, h⟩ := id at0
  obtain ⟨⟨a, xs, rfl, h1, h2⟩, h3⟩ := h.tm2
  have h3 : w = .int i := h3
  subst h3
  obtain ⟨x, hx, rx⟩ := atI_rp h2 e
  obtain ⟨G1, k1⟩ := h.pop1
  obtain ⟨G2, k2⟩ := k1.pop1
  exact ⟨_, ix_tup, a, xs, i, x, rfl, rfl, ex_t h.evo.sub h1, hx, q n Γ _ x H k ⟨B, F, G2, k2.pushV rx⟩⟩
theorem o_ixS {z : Str} {i : Int} {c : Nat} (hz : z.length ≤ sizeLine) (e : atI z.cps.toList i = some c) (k : K n Γ (.frz (.str ⟨#[c]⟩))) : HO2 S (cX S.X) n Γ (.frz (.str z)) (.frz (.int i)) K :=
  ho_flat (u := .str ⟨#[c]⟩) (fun B H v w Q _ h1 h2 q => by cases h1; cases h2; exact ⟨_, ix_str, z, i, c, rfl, rfl, hz, e, q⟩) (fun _ => by exact rfl) k

/-! ### slices -/
def cPo (X : Cx) (e : Option Expr) : TO := fun σ H Q => ∃ t, PO X e t ∧ t σ H Q
theorem po_c {X : Cx} {e : Option Expr} : PO X e (cPo X e) := ⟨fun pins s σ H Q I ⟨t, ht, h⟩ => ht.run pins s σ H Q I h⟩
def cSl (X : Cx) : V → Option Int → Option Int → Hp → VK → Prop := fun x lo hi H Q => ∃ r, SlR X r ∧ r x lo hi H Q
theorem sl_c {X : Cx} : SlR X (cSl X) := fun pins s σ H x v vl vu lo hi sl Q I rx h1 h2 h3 ⟨r, hr, h⟩ => hr pins s σ H x v vl vu lo hi sl Q I rx h1 h2 h3 h
def HPo (S : Sit) (e : Option Expr) (n : Nat) (Γ : Slots) (K : Nat → Slots → Option Int → Prop) : Prop :=
  ∀ Δ σ vs H Q, S.At n Γ Δ σ vs H → (∀ n' Γ' o H2, K n' Γ' o → S.At n' Γ' Δ σ vs H2 → Q o H2) → cPo S.X e σ H Q
def HSl (S : Sit) (lo hi : Option Int) (n : Nat) (Γ : Slots) (x : OT) (K : Nat → Slots → OT → Prop) : Prop :=
  ∀ Δ σ v vs H Q, S.At n Γ (x :: Δ) σ (v :: vs) H → (∀ n' Γ' z u H2, K n' Γ' z → S.At n' Γ' (z :: Δ) σ (u :: vs) H2 → Q u H2) → cSl S.X v lo hi H Q
theorem hp_none {KP : Nat → Slots → Option Int → Prop} (k : KP n Γ none) : HPo S none n Γ KP := fun Δ σ vs H Q a q => ⟨_, po_none, q n Γ none H k a⟩
theorem hp_some {KP : Nat → Slots → Option Int → Prop} {e : Expr} (h : HE S e n Γ fun n1 Γ1 r => ∃ i, r = .frz (.int i) ∧ KP n1 Γ1 (some i)) : HPo S (some e) n Γ KP := by
  intro Δ σ vs H Q a q
  refine ⟨_, po_some pe_c, h Δ σ vs H _ a fun n1 Γ1 r v H1 ⟨i, hr, hk⟩ a1 => ?_⟩
  subst hr
  obtain ⟨B, _, e⟩ := At.val a1
  exact ⟨i, e, q n1 Γ1 (some i) H1 hk a1.pop⟩
theorem he_sl {a : Expr} {lo hi : Option Expr} (h : HE S a n Γ fun n1 Γ1 x => HPo S lo n1 Γ1 fun n2 Γ2 l => HPo S hi n2 Γ2 fun n3 Γ3 u => HSl S l u n3 Γ3 x K) : HE S (.Subscript a (.Slice lo hi none p2) pos) n Γ K := by
  intro Δ σ vs H Q at0 q
  exact ⟨_, pe_slice sl_c pe_c po_c po_c, h Δ σ vs H _ at0 fun n1 Γ1 x v H1 hx a1 => hx _ σ _ H1 _ a1 fun n2 Γ2 l H2 hl a2 => hl _ σ _ H2 _ a2 fun n3 Γ3 u H3 hu a3 => hu Δ σ v vs H3 Q a3 q⟩
def cut {α : Type} (xs : List α) (lo hi : Option Int) : List α := (xs.drop (HT.sIx xs.length 0 lo)).take (HT.sIx xs.length xs.length hi - HT.sIx xs.length 0 lo)
theorem RpL.cut {KK : PySem.W.Frag} {B : Hp} {ds : List D} {xs : List V} {lo hi : Option Int} (h : RpL KK B ds xs) : RpL KK B (cut ds lo hi) (cutV xs lo hi) := by
  unfold DL.cut cutV
  rw [h.len]
  exact (h.drop _).take _
theorem AtB.newL {Z : Wd} {E : Ent} {Δ : List OT} {σ : L2.St} {vs : List V} {H B : Hp} {F G : List Addr} (h : AtB Z E n Γ Δ σ vs H B F G) {p : Addr} {ds : List D} {xs : List V} (hp : H p = none) (hr : RpL Z.K B ds xs) : DL.At Z E n Γ (.ol (ds.map .frz) :: Δ) σ (.ref p :: vs) (upd H p (.lst xs)) := by
  have g := Grow.own (o := .lst xs) h.evo.sub hp
  have hB := fresh_back h.evo.sub hp
  refine ⟨B, F, p :: G, h.push (G1 := [p]) g ⟨p, xs, [], rfl, rfl, upd_same, RpOs.frzs hr⟩ (fun a ha => ?_) fun a => ?_⟩
  · have : a = p := by
      have := List.count_pos_iff.mp ha
      simpa using this
    subst this
    exact ⟨hp, hB⟩
  · rw [List.count_cons]
    simp
    split <;> omega
theorem AtB.newT {Z : Wd} {E : Ent} {Δ : List OT} {σ : L2.St} {vs : List V} {H B : Hp} {F G : List Addr} (h : AtB Z E n Γ Δ σ vs H B F G) {p : Addr} {ds : List D} {xs : List V} (hp : H p = none) (hr : RpL Z.K B ds xs) : DL.At Z E n Γ (.frz (.tup ds) :: Δ) σ (.ref p :: vs) (upd H p (.tup xs)) := by
  have g := Grow.frz (o := .tup xs) h.evo.sub hp
  exact ⟨_, F, G, h.pushF g ⟨p, xs, rfl, .of upd_same, hr.mono g.exB⟩⟩
theorem sl_L {ds : List D} {lo hi : Option Int} (k : K n Γ (.ol ((cut ds lo hi).map .frz))) : HSl S lo hi n Γ (.frz (.lst ds)) K := by
  intro Δ σ v vs H Q at0 q
  obtain ⟨B, F, G, h⟩ := id at0
  obtain ⟨y', ys, F1, F2, e1, e2, ⟨e5, a, xs, rfl, h1, h2⟩, e4⟩ := h.tm
  obtain ⟨rfl, rfl⟩ := List.cons.inj e1
  obtain ⟨G1, k1⟩ := h.pop1
  exact ⟨_, sl_list, a, xs, rfl, .of (h.evo.sub _ _ h1), fun p hp => q n Γ _ _ _ k (k1.newL hp h2.cut)⟩
theorem sl_T {ds : List D} {lo hi : Option Int} (hw : ¬ (HT.sIx ds.length 0 lo = 0 ∧ HT.sIx ds.length ds.length hi = ds.length)) (k : K n Γ (.frz (.tup (cut ds lo hi)))) : HSl S lo hi n Γ (.frz (.tup ds)) K := by
  intro Δ σ v vs H Q at0 q
  obtain ⟨B, F, G, h⟩ := id at0
  obtain ⟨y', ys, F1, F2, e1, e2, ⟨e5, a, xs, rfl, h1, h2⟩, e4⟩ := h.tm
  obtain ⟨rfl, rfl⟩ := List.cons.inj e1
  obtain ⟨G1, k1⟩ := h.pop1
  exact ⟨_, sl_tup, a, xs, rfl, ex_t h.evo.sub h1, by rw [h2.len]; exact hw, fun p hp => q n Γ _ _ _ k (k1.newT hp h2.cut)⟩
theorem sl_S {z : Str} {lo hi : Option Int} (hz : z.length ≤ sizeLine) (k : K n Γ (.frz (.str (cutS z lo hi)))) : HSl S lo hi n Γ (.frz (.str z)) K := by
  intro Δ σ v vs H Q at0 q
  obtain ⟨B, _, e⟩ := At.val at0
  have e : v = .str z := e
  subst e
  exact ⟨_, sl_str, z, rfl, hz, q n Γ _ _ H k (at0.pop.flat fun _ => by exact rfl)⟩

/-! ### data as told by the model -/
mutual
def toP : D → Option PyData
  | .non => some .none
  | .bl b => some (.bool b)
  | .int i => some (.int i)
  | .str x => some (.str x)
  | .lst ds => (toPs ds).map .list
  | .tup ds => (toPs ds).map .tuple
  | _ => none
def toPs : List D → Option (List PyData)
  | [] => some []
  | d :: ds => match toP d, toPs ds with
    | some p, some ps => some (p :: ps)
    | _, _ => none
end
mutual
theorem Rp.dp {K : PySem.W.Frag} {B H : Hp} (e : Ex B H) : ∀ {d : D} {v : V} {p : PyData}, toP d = some p → Rp K B d v → Dp K H v p
  | .non, _, _, hp, h => by cases hp; cases h; exact .non
  | .bl b, _, _, hp, h => by cases hp; cases h; exact .bl b
  | .int i, _, _, hp, h => by cases hp; cases h; exact .int i
  | .str x, _, _, hp, h => by cases hp; cases h; exact .str x
  | .lst ds, _, _, hp, ⟨a, xs, e1, e2, e3⟩ => by
    have hp : (toPs ds).map PyData.list = some _ := hp
    obtain ⟨ps, h1, h2⟩ := Option.map_eq_some_iff.mp hp
    rw [e1, ← h2]
    exact .lst (.of (e _ _ e2)) (RpL.dp e h1 e3)
  | .tup ds, _, _, hp, ⟨a, xs, e1, e2, e3⟩ => by
    have hp : (toPs ds).map PyData.tuple = some _ := hp
    obtain ⟨ps, h1, h2⟩ := Option.map_eq_some_iff.mp hp
    rw [e1, ← h2]
    exact .tup (ex_t e e2) (RpL.dp e h1 e3)
  | .dct _ _, _, _, hp, _ => by cases hp
  | .obj _ _ _, _, _, hp, _ => by cases hp
  | .opq _, _, _, hp, _ => by cases hp
theorem RpL.dp {K : PySem.W.Frag} {B H : Hp} (e : Ex B H) : ∀ {ds : List D} {xs : List V} {ps : List PyData}, toPs ds = some ps → RpL K B ds xs → DpAll K H xs ps
  | [], _, _, hp, h => by cases hp; rw [show _ = ([] : List V) from h]; exact .nil
  | d :: ds, _, _, hp, ⟨y, ys, e1, e2, e3⟩ => by
    unfold toPs at hp
    cases q1 : toP d with
    | none => rw [q1] at hp; cases hp
    | some p =>
      cases q2 : toPs ds with
      | none => rw [q1, q2] at hp; cases hp
      | some ps =>
        rw [q1, q2] at hp
        cases hp
        rw [e1]
        exact .cons (Rp.dp e q1 e2) (RpL.dp e q2 e3)
end
theorem o_eqD {d e : D} {p q : PyData} (hp : toP d = some p) (hq : toP e = some q) (sp : SeqAt.shaped p = true) (sq : SeqAt.shaped q = true) (hu : S.X.A.units + 64 < cLine) (k : K n Γ (.frz (.bl (PyData.eqv p q)))) : HO2 S (cC S.X .Eq) n Γ (.frz d) (.frz e) K :=
  ho_flat (u := .bl (PyData.eqv p q)) (fun B H v w Q eB h1 h2 k => ⟨_, op_eqD hu, p, q, Rp.dp eB hp h1, Rp.dp eB hq h2, sp, sq, k⟩) (fun _ => by exact rfl) k
theorem o_neD {d e : D} {p q : PyData} (hp : toP d = some p) (hq : toP e = some q) (sp : SeqAt.shaped p = true) (sq : SeqAt.shaped q = true) (hu : S.X.A.units + 64 < cLine) (k : K n Γ (.frz (.bl (!PyData.eqv p q)))) : HO2 S (cC S.X .NotEq) n Γ (.frz d) (.frz e) K :=
  ho_flat (u := .bl (!PyData.eqv p q)) (fun B H v w Q eB h1 h2 k => ⟨_, op_neD hu, p, q, Rp.dp eB hp h1, Rp.dp eB hq h2, sp, sq, k⟩) (fun _ => by exact rfl) k
theorem o_inD {d : D} {es : List D} {p : PyData} {qs : List PyData} (hp : toP d = some p) (hq : toPs es = some qs) (sp : SeqAt.shaped p = true) (sq : SeqAt.shaped (.list qs) = true) (hu : S.X.A.units + 65 < cLine) (k : K n Γ (.frz (.bl (qs.any fun z => PyData.eqv z p)))) : HO2 S (cC S.X .In) n Γ (.frz d) (.frz (.lst es)) K :=
  ho_flat (u := .bl (qs.any fun z => PyData.eqv z p)) (fun B H v w Q eB h1 h2 k => ⟨_, op_inD hu, p, qs, Rp.dp eB hp h1, Rp.dp eB (by show (toPs es).map PyData.list = _; rw [hq]; rfl) h2, sp, sq, k⟩) (fun _ => by exact rfl) k
theorem o_ninD {d : D} {es : List D} {p : PyData} {qs : List PyData} (hp : toP d = some p) (hq : toPs es = some qs) (sp : SeqAt.shaped p = true) (sq : SeqAt.shaped (.list qs) = true) (hu : S.X.A.units + 65 < cLine) (k : K n Γ (.frz (.bl (!qs.any fun z => PyData.eqv z p)))) : HO2 S (cC S.X .NotIn) n Γ (.frz d) (.frz (.lst es)) K :=
  ho_flat (u := .bl (!qs.any fun z => PyData.eqv z p)) (fun B H v w Q eB h1 h2 k => ⟨_, op_notInD hu, p, qs, Rp.dp eB hp h1, Rp.dp eB (by show (toPs es).map PyData.list = _; rw [hq]; rfl) h2, sp, sq, k⟩) (fun _ => by exact rfl) k

/-! ### in, of flat things -/
def valD : D → V
  | .non => .non
  | .bl b => .bl b
  | .int i => .int i
  | .str x => .str x
  | .opq v => v
  | _ => .non
def flat4 : D → Bool
  | .non => true
  | .bl _ => true
  | .int _ => true
  | .str _ => true
  | _ => false
theorem flat4_val {KK : PySem.W.Frag} {B : Hp} {d : D} {v : V} (h : flat4 d = true) (r : Rp KK B d v) : v = valD d ∧ flatV v = true := by
  cases d with
  | non => cases r; exact ⟨rfl, rfl⟩
  | bl b => cases r; exact ⟨rfl, rfl⟩
  | int b => cases r; exact ⟨rfl, rfl⟩
  | str b => cases r; exact ⟨rfl, rfl⟩
  | lst b => cases h
  | tup b => cases h
  | dct b c => cases h
  | obj C ns vs => cases h
  | opq u => cases h
theorem flat4_all {KK : PySem.W.Frag} {B : Hp} : ∀ {ds : List D} {xs : List V}, ds.all flat4 = true → RpL KK B ds xs → xs = ds.map valD ∧ xs.all flatV = true
  | [], _, _, h => by rw [show _ = ([] : List V) from h]; exact ⟨rfl, rfl⟩
  | d :: ds, _, hf, ⟨y, ys, e1, e2, e3⟩ => by
    rw [List.all_cons, Bool.and_eq_true] at hf
    obtain ⟨h1, h2⟩ := flat4_val hf.1 e2
    obtain ⟨h3, h4⟩ := flat4_all hf.2 e3
    rw [e1, h1, h3]
    refine ⟨rfl, ?_⟩
    rw [List.all_cons, ← h1, ← h3, h2, h4]
    rfl
def inD (d : D) (ds : List D) : Bool := inV (valD d) (ds.map valD)
theorem o_inL {d : D} {ds : List D} (hd : flat4 d = true) (hs : ds.all flat4 = true) (k : K n Γ (.frz (.bl (inD d ds)))) : HO2 S (cC S.X .In) n Γ (.frz d) (.frz (.lst ds)) K :=
  ho_flat (u := .bl (inD d ds)) (fun B H v w Q eB h1 ⟨a, xs, e1, e2, e3⟩ k => by
    obtain ⟨q1, q2⟩ := flat4_val hd h1
    obtain ⟨q3, q4⟩ := flat4_all hs e3
    refine ⟨_, op_in_seq, a, xs, e1, .inl (.of (eB _ _ e2)), q2, q4, ?_⟩
    rw [q1, q3]; exact k) (fun _ => by exact rfl) k
theorem o_ninL {d : D} {ds : List D} (hd : flat4 d = true) (hs : ds.all flat4 = true) (k : K n Γ (.frz (.bl (!inD d ds)))) : HO2 S (cC S.X .NotIn) n Γ (.frz d) (.frz (.lst ds)) K :=
  ho_flat (u := .bl (!inD d ds)) (fun B H v w Q eB h1 ⟨a, xs, e1, e2, e3⟩ k => by
    obtain ⟨q1, q2⟩ := flat4_val hd h1
    obtain ⟨q3, q4⟩ := flat4_all hs e3
    refine ⟨_, op_notIn_seq, a, xs, e1, .inl (.of (eB _ _ e2)), q2, q4, ?_⟩
    rw [q1, q3]; exact k) (fun _ => by exact rfl) k
theorem o_inT {d : D} {ds : List D} (hd : flat4 d = true) (hs : ds.all flat4 = true) (k : K n Γ (.frz (.bl (inD d ds)))) : HO2 S (cC S.X .In) n Γ (.frz d) (.frz (.tup ds)) K :=
  ho_flat (u := .bl (inD d ds)) (fun B H v w Q eB h1 ⟨a, xs, e1, e2, e3⟩ k => by
    obtain ⟨q1, q2⟩ := flat4_val hd h1
    obtain ⟨q3, q4⟩ := flat4_all hs e3
    refine ⟨_, op_in_seq, a, xs, e1, .inr (ex_t eB e2), q2, q4, ?_⟩
    rw [q1, q3]; exact k) (fun _ => by exact rfl) k
theorem o_ninT {d : D} {ds : List D} (hd : flat4 d = true) (hs : ds.all flat4 = true) (k : K n Γ (.frz (.bl (!inD d ds)))) : HO2 S (cC S.X .NotIn) n Γ (.frz d) (.frz (.tup ds)) K :=
  ho_flat (u := .bl (!inD d ds)) (fun B H v w Q eB h1 ⟨a, xs, e1, e2, e3⟩ k => by
    obtain ⟨q1, q2⟩ := flat4_val hd h1
    obtain ⟨q3, q4⟩ := flat4_all hs e3
    refine ⟨_, op_notIn_seq, a, xs, e1, .inr (ex_t eB e2), q2, q4, ?_⟩
    rw [q1, q3]; exact k) (fun _ => by exact rfl) k
/-- x in y, texts -/
def occ (x y : Str) : Bool := !(Builtin.Str.occurrences y x 0 y.length 1).isEmpty
theorem o_inS {x y : Str} (k : K n Γ (.frz (.bl (occ x y)))) : HO2 S (cC S.X .In) n Γ (.frz (.str x)) (.frz (.str y)) K :=
  ho_flat (u := .bl (occ x y)) (fun B H v w Q _ h1 h2 q => by cases h1; cases h2; exact ⟨_, op_in_str, x, y, rfl, rfl, q⟩) (fun _ => by exact rfl) k
theorem o_ninS {x y : Str} (k : K n Γ (.frz (.bl (!occ x y)))) : HO2 S (cC S.X .NotIn) n Γ (.frz (.str x)) (.frz (.str y)) K :=
  ho_flat (u := .bl (!occ x y)) (fun B H v w Q _ h1 h2 q => by cases h1; cases h2; exact ⟨_, op_notin_str, x, y, rfl, rfl, q⟩) (fun _ => by exact rfl) k
theorem o_inC {c : Nat} {y : Str} (k : K n Γ (.frz (.bl (decide (c ∈ y.cps.toList))))) : HO2 S (cC S.X .In) n Γ (.frz (.str ⟨#[c]⟩)) (.frz (.str y)) K :=
  ho_flat (u := .bl (decide (c ∈ y.cps.toList))) (fun B H v w Q _ h1 h2 q => by cases h1; cases h2; exact ⟨_, op_in_sign, c, y, rfl, rfl, q⟩) (fun _ => by exact rfl) k
theorem o_ninC {c : Nat} {y : Str} (k : K n Γ (.frz (.bl (!decide (c ∈ y.cps.toList))))) : HO2 S (cC S.X .NotIn) n Γ (.frz (.str ⟨#[c]⟩)) (.frz (.str y)) K :=
  ho_flat (u := .bl (!decide (c ∈ y.cps.toList))) (fun B H v w Q _ h1 h2 q => by cases h1; cases h2; exact ⟨_, op_notIn_sign, c, y, rfl, rfl, q⟩) (fun _ => by exact rfl) k
/-- is None -/
def isN : D → Bool
  | .non => true
  | .opq v => decide (v = .non)
  | _ => false
theorem isN_of {KK : PySem.W.Frag} {B : Hp} {d : D} {v : V} (r : Rp KK B d v) : decide (v = .non) = isN d := by
  cases d with
  | non => cases r; rfl
  | bl b => cases r; simp [isN]
  | int b => cases r; simp [isN]
  | str b => cases r; simp [isN]
  | lst b => obtain ⟨a, _, rfl, _⟩ := r; simp [isN]
  | tup b => obtain ⟨a, _, rfl, _⟩ := r; simp [isN]
  | dct b c => obtain ⟨a, _, rfl, _⟩ := r; simp [isN]
  | obj C ns vs => obtain ⟨a, _, _, rfl, _⟩ := r; simp [isN]
  | opq u => cases r; simp [isN]
theorem o_isN {d : D} (k : K n Γ (.frz (.bl (isN d)))) : HO2 S (cC S.X .Is) n Γ (.frz d) (.frz .non) K :=
  ho_flat (u := .bl (isN d)) (fun B H v w Q _ h1 h2 q => by cases h2; refine ⟨_, op_isN, rfl, ?_⟩; rw [isN_of h1]; exact q) (fun _ => by exact rfl) k
theorem o_notN {d : D} (k : K n Γ (.frz (.bl (!isN d)))) : HO2 S (cC S.X .IsNot) n Γ (.frz d) (.frz .non) K :=
  ho_flat (u := .bl (!isN d)) (fun B H v w Q _ h1 h2 q => by cases h2; refine ⟨_, op_notN, rfl, ?_⟩; rw [isN_of h1]; exact q) (fun _ => by exact rfl) k

/-! ### chains -/
theorem he_chain {a b c : Expr} {op op' : CmpOp} (h : HE S a n Γ fun n1 Γ1 x => HE S b n1 Γ1 fun n2 Γ2 y => ∃ z d, x = .frz (.int z) ∧ y = .frz (.int d) ∧ HO2 S (cC S.X op) n2 Γ2 (.frz (.int z)) (.frz (.int d)) fun n3 Γ3 r => ∃ k, r = .frz (.bl k) ∧
      if k = true then HE S c n3 Γ3 fun n4 Γ4 w => HO2 S (cC S.X op') n4 Γ4 (.frz (.int d)) w K else K n3 Γ3 (.frz (.bl false)))
    (hm : lastMarks [op, op'] [b, c] = false := by with_unfolding_all rfl) : HE S (.Compare a [op, op'] [b, c] pos) n Γ K := by
  intro Δ σ vs H Q at0 q
  refine ⟨_, pe_chain op_cC op_cC pe_c pe_c pe_c hm, h Δ σ vs H _ at0 fun n1 Γ1 x v H1 hx a1 => hx _ σ _ H1 _ a1 fun n2 Γ2 y w H2 ⟨z, d, ex, ey, ho⟩ a2 => ?_⟩
  subst ex ey
  obtain ⟨B0, _, e0⟩ := At.val a2
  have e0 : w = .int d := e0
  refine ho Δ σ v w vs H2 _ a2 fun n3 Γ3 r u H3 ⟨k, hr, hk⟩ a3 => ?_
  subst hr
  obtain ⟨B, _, e⟩ := At.val a3
  have e : u = .bl k := e
  refine ⟨k, e, ?_⟩
  cases k with
  | false => exact q n3 Γ3 _ (.bl false) H3 hk (a3.pop.flat fun _ => rfl)
  | true =>
    refine hk (.frz (.int d) :: Δ) σ (w :: vs) H3 _ (a3.pop.flat fun _ => e0) fun n4 Γ4 t u H4 hk a4 => hk Δ σ w u vs H4 Q a4 q
theorem ht_chain {a b c : Expr} {op op' : CmpOp} (h : HE S a n Γ fun n1 Γ1 x => HE S b n1 Γ1 fun n2 Γ2 y => ∃ z d, x = .frz (.int z) ∧ y = .frz (.int d) ∧ HO2 S (cC S.X op) n2 Γ2 (.frz (.int z)) (.frz (.int d)) fun n3 Γ3 r => ∃ k, r = .frz (.bl k) ∧
      if k = true then HE S c n3 Γ3 fun n4 Γ4 w => HO2 S (cC S.X op') n4 Γ4 (.frz (.int d)) w fun n5 Γ5 r => ∃ b, r = .frz (.bl b) ∧ KB n5 Γ5 b else KB n3 Γ3 false)
    (hm : lastMarks [op, op'] [b, c] = false := by with_unfolding_all rfl) : HT S (.Compare a [op, op'] [b, c] pos) n Γ KB := by
  intro Δ σ vs H Q at0 q
  refine ⟨_, pt_chain op_cC op_cC pe_c pe_c pe_c hm, h Δ σ vs H _ at0 fun n1 Γ1 x v H1 hx a1 => hx _ σ _ H1 _ a1 fun n2 Γ2 y w H2 ⟨z, d, ex, ey, ho⟩ a2 => ?_⟩
  subst ex ey
  obtain ⟨B0, _, e0⟩ := At.val a2
  have e0 : w = .int d := e0
  refine ho Δ σ v w vs H2 _ a2 fun n3 Γ3 r u H3 ⟨k, hr, hk⟩ a3 => ?_
  subst hr
  obtain ⟨B, _, e⟩ := At.val a3
  have e : u = .bl k := e
  refine ⟨k, e, ?_⟩
  cases k with
  | false => exact ⟨false, rfl, q n3 Γ3 false H3 hk a3.pop⟩
  | true =>
    refine hk (.frz (.int d) :: Δ) σ (w :: vs) H3 _ (a3.pop.flat fun _ => e0) fun n4 Γ4 t u H4 hk a4 => hk Δ σ w u vs H4 _ a4 fun n5 Γ5 r u H5 ⟨b, hr, hk⟩ a5 => ?_
    subst hr
    obtain ⟨B, _, e⟩ := At.val a5
    exact ⟨b, e, q n5 Γ5 b H5 hk a5.pop⟩
end
end DL

set_option Elab.async false
set_option linter.all false
set_option maxRecDepth 100000
set_option maxHeartbeats 4000000
/-! DLI: list comprehensions. -/
namespace DL
open PySem PySem.Spec PyProof.Rows L2 Evl

/-! ### slots that are forgotten -/
def wipeG (Γ : Slots) : List Nat → Slots
  | [] => Γ
  | v :: vs => (wipeG Γ vs).set v none
theorem wipeG_out {Γ : Slots} {i : Nat} : ∀ {vs : List Nat}, i ∉ vs → (wipeG Γ vs)[i]? = Γ[i]?
  | [], _ => rfl
  | v :: vs, h => by
    show ((wipeG Γ vs).set v none)[i]? = _
    rw [List.getElem?_set_ne (show v ≠ i from fun z => h (by rw [z]; exact List.mem_cons_self))]
    exact wipeG_out (fun z => h (List.mem_cons_of_mem _ z))
theorem wipeG_in {Γ : Slots} {i : Nat} : ∀ {vs : List Nat}, i ∈ vs → (wipeG Γ vs)[i]? = none ∨ (wipeG Γ vs)[i]? = some none
  | [], h => by cases h
  | v :: vs, h => by
    show ((wipeG Γ vs).set v none)[i]? = none ∨ ((wipeG Γ vs).set v none)[i]? = some none
    by_cases q : v = i
    · subst q
      by_cases l : v < (wipeG Γ vs).length
      · right; rw [List.getElem?_set_self l]
      · left; rw [List.getElem?_eq_none (by rw [List.length_set]; omega)]
    · rw [List.getElem?_set_ne q]
      rcases List.mem_cons.mp h with z | z
      · exact absurd z.symm q
      · exact wipeG_in z
def nones (Γ : Slots) (vs : List Nat) : Prop := ∀ i ∈ vs, ∀ t : OT, Γ[i]? ≠ some (some t)
theorem nones_wipe {Γ : Slots} {vs : List Nat} : nones (wipeG Γ vs) vs := fun i hi t e => by
  rcases wipeG_in (Γ := Γ) hi with z | z <;> rw [z] at e <;> cases e
theorem RpS.swap {K : PySem.W.Frag} {H B : Hp} : ∀ {Γ : Slots} {σ σ' : L2.St} {F : List Addr}, RpS K H B Γ σ F → σ'.length = σ.length → (∀ (i : Nat) (t : OT), Γ[i]? = some (some t) → σ'[i]? = σ[i]?) → RpS K H B Γ σ' F
  | [], σ, σ', F, h, hl, _ => ⟨by
      rw [h.1] at hl
      cases σ' with
      | nil => rfl
      | cons a b => simp at hl, h.2⟩
  | none :: Γ, _, σ', F, ⟨x, σ1, e1, e2⟩, hl, hs => by
    subst e1
    cases σ' with
    | nil => simp at hl
    | cons y σ2 => exact ⟨y, σ2, rfl, RpS.swap e2 (by simpa using hl) fun i t e => by simpa using hs (i + 1) t (by simpa using e)⟩
  | some t :: Γ, _, σ', F, ⟨v, σ1, F1, F2, e1, e2, e3, e4⟩, hl, hs => by
    subst e1
    cases σ' with
    | nil => simp at hl
    | cons y σ2 =>
      have := hs 0 t rfl
      have hy : y = some v := Option.some.inj (by simpa using this)
      subst hy
      exact ⟨v, σ2, F1, F2, rfl, e2, e3, RpS.swap e4 (by simpa using hl) fun i t e => by simpa using hs (i + 1) t (by simpa using e)⟩
theorem RpS.setN {K : PySem.W.Frag} {H B : Hp} : ∀ {Γ : Slots} {σ : L2.St} {F : List Addr} {i : Nat}, RpS K H B Γ σ F → ∃ F', (∀ a, F'.count a ≤ F.count a) ∧ RpS K H B (Γ.set i none) (σ.set i none) F'
  | [], σ, F, i, h => ⟨F, fun _ => Nat.le_refl _, by rw [h.1]; exact ⟨rfl, h.2⟩⟩
  | none :: Γ, _, F, 0, ⟨x, σ1, e1, e2⟩ => ⟨F, fun _ => Nat.le_refl _, by subst e1; exact ⟨none, σ1, rfl, e2⟩⟩
  | some t :: Γ, _, F, 0, ⟨v, σ1, F1, F2, e1, e2, e3, e4⟩ => ⟨F2, fun a => by rw [e2, List.count_append]; omega, by subst e1; exact ⟨none, σ1, rfl, e4⟩⟩
  | none :: Γ, _, F, i + 1, ⟨x, σ1, e1, e2⟩ => by
    obtain ⟨F', c, h⟩ := RpS.setN (i := i) e2
    exact ⟨F', c, by subst e1; exact ⟨x, _, rfl, h⟩⟩
  | some t :: Γ, _, F, i + 1, ⟨v, σ1, F1, F2, e1, e2, e3, e4⟩ => by
    obtain ⟨F', c, h⟩ := RpS.setN (i := i) e4
    exact ⟨F1 ++ F', fun a => by rw [e2, List.count_append, List.count_append]; have := c a; omega, by subst e1; exact ⟨v, _, F1, F', rfl, rfl, e3, h⟩⟩
theorem RpS.wipe {K : PySem.W.Frag} {H B : Hp} {Γ : Slots} {σ : L2.St} {F : List Addr} (h : RpS K H B Γ σ F) : ∀ (vs : List Nat), ∃ F', (∀ a, F'.count a ≤ F.count a) ∧ RpS K H B (wipeG Γ vs) (L2.wipe σ vs) F'
  | [] => ⟨F, fun _ => Nat.le_refl _, h⟩
  | v :: vs => by
    obtain ⟨F1, c1, h1⟩ := RpS.wipe h vs
    obtain ⟨F2, c2, h2⟩ := RpS.setN (i := v) h1
    exact ⟨F2, fun a => Nat.le_trans (c2 a) (c1 a), h2⟩
theorem PinS.wipe {P : List (Option V)} {σ : L2.St} (h : PinS P σ) : ∀ {vs : List Nat}, (∀ i ∈ vs, P.getD i none = none) → PinS P (L2.wipe σ vs)
  | [], _ => h
  | v :: vs, hv => PinS.set (PinS.wipe h fun i hi => hv i (List.mem_cons_of_mem _ hi)) (hv v List.mem_cons_self)
section
variable {Z : Wd} {E : Ent} {n : Nat} {Γ : Slots} {Δ rs : List OT} {σ σ2 : L2.St} {vs xs : List V} {H B : Hp} {F G : List Addr} {own : List Nat}
theorem At.wipe (h : DL.At Z E n Γ Δ σ vs H) (hP : ∀ i ∈ own, E.P.getD i none = none) : DL.At Z E n (wipeG Γ own) Δ (L2.wipe σ own) vs H := by
  obtain ⟨B, F, G, h⟩ := h
  obtain ⟨F', c, h'⟩ := h.sl.wipe own
  exact ⟨B, F', G, h.evo, h', h.tm, fun a => by have := h.nd a; have := c a; omega, fun a ha => h.out a (by have := c a; omega), h.str, h.bst, h.tab, h.pin.wipe hP⟩
/-- the block's slots forgotten, the body's own as they were -/
theorem At.unwipe (h : DL.At Z E n Γ Δ σ2 vs H) (hw : L2.wipe σ2 own = L2.wipe σ own) (hp : PinS E.P σ) : DL.At Z E n (wipeG Γ own) Δ σ vs H := by
  obtain ⟨B, F, G, h⟩ := h
  obtain ⟨F', c, h'⟩ := h.sl.wipe own
  rw [hw] at h'
  refine ⟨B, F', G, h.evo, h'.swap (by rw [wipe_length]) fun i t e => ?_, h.tm, fun a => by have := h.nd a; have := c a; omega, fun a ha => h.out a (by have := c a; omega), h.str, h.bst, h.tab, hp⟩
  by_cases q : i ∈ own
  · exact absurd e (nones_wipe i q t)
  · rw [wipe_out q]
theorem At.pinned (h : DL.At Z E n Γ Δ σ vs H) : PinS E.P σ := by
  obtain ⟨B, F, G, h⟩ := h
  exact h.pin
/-- the first temporary comes from behind some others -/
theorem AtB.rotI {r : OT} {x : V} (h : AtB Z E n Γ (r :: (rs ++ Δ)) σ (x :: (xs ++ vs)) H B F G) (hl : xs.length = rs.length) : ∃ G', AtB Z E n Γ (rs ++ (r :: Δ)) σ (xs ++ (x :: vs)) H B F G' := by
  obtain ⟨y, ys, F1, F2, e1, e2, e3, e4⟩ := id h.tm
  obtain ⟨rfl, rfl⟩ := List.cons.inj e1
  obtain ⟨ys, zs, G1, G2, q1, q2, q3, q4, q5⟩ := RpOs.split e4
  obtain ⟨rfl, rfl⟩ := List.append_inj q1 (hl.trans q2.symm)
  refine ⟨G1 ++ (F1 ++ G2), h.evo, h.sl, RpOs.app q4 ⟨x, _, F1, G2, rfl, rfl, e3, q5⟩, fun a => ?_, fun a ha => h.out a ?_, h.str, h.bst, h.tab, h.pin⟩
  · have := h.nd a
    rw [e2, q3] at this
    simp only [List.count_append] at this ⊢
    omega
  · rw [e2, q3]
    simp only [List.count_append] at ha ⊢
    omega
/-- an owned object among the temporaries is written -/
theorem AtB.mutT {Δ' : List OT} {vs' : List V} {G' : List Addr} {a : Addr} {u u' : HO} (h : AtB Z E n Γ Δ σ vs H B F G) (ha : H a = some u) (hin : 0 < G.count a) (hu : ∀ ps, u ≠ .tbl ps) (hx : ∀ φ, u ≠ .ext φ)
    (tm : RpOs Z.K (upd H a u') B Δ' vs' G') (hc : ∀ b, G'.count b ≤ G.count b) (hu' : ∀ ps, u' ≠ .tbl ps := by intro _ z; cases z) : AtB Z E n Γ Δ' σ vs' (upd H a u') B F G' := by
  have nF : F.count a = 0 := by have := h.nd a; omega
  obtain ⟨o1, o2, o3, o4⟩ := h.out a (by omega)
  refine ⟨⟨fun b o q hm h3 h4 h5 => ?_, fun b ps q => ?_, h.evo.exB, h.evo.new, fun b o q => ?_⟩, RpS.mono (Ex.refl B) (fun b hb o q => ?_) h.sl, tm, fun b => by have := h.nd b; have := hc b; omega, fun b hb => h.out b (by have := hc b; omega), ?_, h.bst, tabs_upd h.tab ha hu hx hu', h.pin⟩
  · rw [upd_ne (fun z => ?_)]
    · exact h.evo.ex b o q hm h3 h4 h5
    · rw [z] at q hm
      rcases o2 with y | y
      · rw [q] at y; cases y
      · exact hm y
  · obtain ⟨ps', q'⟩ := h.evo.tb b ps q
    refine ⟨ps', ?_⟩
    rw [upd_ne (fun z => by rw [z, ha] at q'; exact hu _ (Option.some.inj q'))]
    exact q'
  · rw [upd_ne (fun z => by rw [z, o1] at q; cases q)]
    exact h.evo.sub b o q
  · rw [upd_ne (fun z => by rw [z] at hb; have := List.count_pos_iff.mpr hb; omega)]
    exact q
  · obtain ⟨ns, x, y, z, e1, e2, e3⟩ := h.str
    exact ⟨ns, x, y, z, by rw [upd_ne o3.symm]; exact e1, by rw [upd_ne o4.symm]; exact e2, e3⟩
/-- a temporary goes to the end of an owned list among the temporaries -/
theorem At.appT {r : OT} {w : V} {acc : List OT} {D : Addr} (h : DL.At Z E n Γ (r :: (rs ++ (.ol acc :: Δ))) σ (w :: (xs ++ (.ref D :: vs))) H) (hl : xs.length = rs.length) :
    ∃ ys, H D = some (.lst ys) ∧ ys.length = acc.length ∧ DL.At Z E n Γ (rs ++ (.ol (acc ++ [r]) :: Δ)) σ (xs ++ (.ref D :: vs)) (upd H D (.lst (ys ++ [w]))) := by
  obtain ⟨B, F, G, h⟩ := h
  obtain ⟨y, ys, F1, F2, e1, e2, e3, e4⟩ := id h.tm
  obtain ⟨rfl, rfl⟩ := List.cons.inj e1
  obtain ⟨ys, zs, G1, G2, q1, q2, q3, q4, q5⟩ := RpOs.split e4
  obtain ⟨rfl, rfl⟩ := List.append_inj q1 (hl.trans q2.symm)
  obtain ⟨y2, ys2, F3, F4, p1, p2, ⟨a, us, G5, p3, p4, p5, p6⟩, p7⟩ := q5
  obtain ⟨rfl, rfl⟩ := List.cons.inj p1
  obtain rfl := V.ref.inj p3
  have cnt : ∀ b, F.count b + (F1.count b + (G1.count b + ((if D = b then 1 else 0) + G5.count b + F4.count b))) ≤ 1 := fun b => by
    have := h.nd b
    rw [e2, q3, p2, p4] at this
    simp only [List.count_append, List.count_cons, beq_iff_eq] at this
    omega
  have cD := cnt D
  rw [if_pos rfl] at cD
  refine ⟨us, p5, p6.len, B, F, G1 ++ ((D :: (G5 ++ F1)) ++ F4), h.mutT p5 (by rw [e2, q3, p2, p4]; simp only [List.count_append, List.count_cons]; simp; omega) (fun _ z => by cases z) (fun _ z => by cases z) ?_ fun b => ?_⟩
  · have k : ∀ {ts : List OT} {zs : List V} {Gs : List Addr}, RpOs Z.K H B ts zs Gs → Gs.count D = 0 → RpOs Z.K (upd H D (.lst (us ++ [w]))) B ts zs Gs := fun hr hn => hr.upd hn
    refine RpOs.app (k q4 (by omega)) ⟨.ref D, vs, D :: (G5 ++ F1), F4, rfl, rfl, ⟨D, us ++ [w], G5 ++ F1, rfl, rfl, upd_same, RpOs.app (k p6 (by omega)) (k (RpOs.one e3) (by omega))⟩, k p7 (by omega)⟩
  · rw [e2, q3, p2, p4]
    simp only [List.count_append, List.count_cons]
    omega
end

/-! ### the block -/
def Sit.blk (S : Sit) (s : Shared) (H : Hp) (scope : Scope) (cenv : Env) (fp : List Addr) : Sit :=
  ⟨S.X.blk s H scope cenv fp, S.st, S.cs, S.T, S.E, fun _ _ _ _ => False, fun _ _ _ _ _ => False, fun u s' ⟨a, B, sI, pins, σ, H, cls, d, e, I, nb, up, sky, na, os, ag, w⟩ => w.elim, fun n Γ C ns ds d σ H B F _ _ h => h.elim, PassesOwn.never⟩
/-- in every such block -/
def HEb (S : Sit) (scope : Scope) (e : Expr) (n : Nat) (Γ : Slots) (K : Nat → Slots → OT → Prop) : Prop :=
  ∀ s H C cl fp, HE (S.blk s H scope (compEnvC scope cl C S.X.env) fp) e n Γ K
def HTb (S : Sit) (scope : Scope) (e : Expr) (n : Nat) (Γ : Slots) (K : Nat → Slots → Bool → Prop) : Prop :=
  ∀ s H C cl fp, HT (S.blk s H scope (compEnvC scope cl C S.X.env) fp) e n Γ K
def bE (X : Cx) (scope : Scope) (e : Expr) : TE := fun σ H Q => ∀ (s : Shared) (H0 : Hp) (C : Addr) (cl : List (Str × Addr)) (fp : List Addr), cE (X.blk s H0 scope (compEnvC scope cl C X.env) fp) e σ H Q
def bT (X : Cx) (scope : Scope) (e : Expr) : TT := fun σ H Q => ∀ (s : Shared) (H0 : Hp) (C : Addr) (cl : List (Str × Addr)) (fp : List Addr), cT (X.blk s H0 scope (compEnvC scope cl C X.env) fp) e σ H Q
theorem pe_b {X : Cx} {scope : Scope} {e : Expr} : ∀ (s : Shared) (H : Hp) (C : Addr) (cl : List (Str × Addr)) (fp : List Addr), PE (X.blk s H scope (compEnvC scope cl C X.env) fp) e (bE X scope e) :=
  fun s H C cl fp => ⟨fun pins s' σ H' Q I h => pe_c.run pins s' σ H' Q I (h s H C cl fp)⟩
theorem pt_b {X : Cx} {scope : Scope} {e : Expr} : ∀ (s : Shared) (H : Hp) (C : Addr) (cl : List (Str × Addr)) (fp : List Addr), PT (X.blk s H scope (compEnvC scope cl C X.env) fp) e (bT X scope e) :=
  fun s H C cl fp => ⟨fun pins s' σ H' Q I h => pt_c.run pins s' σ H' Q I (h s H C cl fp)⟩
/-- a target that stores within some slots only -/
def GIn (g : TG) (vs : List Nat) : Prop := ∀ (v : V) (σ : L2.St) (H : Hp) (Q : L2.St → Hp → Prop) (τ : L2.St), L2.wipe σ vs = L2.wipe τ vs → (g v σ H fun σ' H' => L2.wipe σ' vs = L2.wipe τ vs → Q σ' H') → g v σ H fun σ' H' => L2.wipe σ' vs = L2.wipe τ vs ∧ Q σ' H'
def GsIn (g : TGs) (vs : List Nat) : Prop := ∀ (v : List V) (σ : L2.St) (H : Hp) (Q : L2.St → Hp → Prop) (τ : L2.St), L2.wipe σ vs = L2.wipe τ vs → (g v σ H fun σ' H' => L2.wipe σ' vs = L2.wipe τ vs → Q σ' H') → g v σ H fun σ' H' => L2.wipe σ' vs = L2.wipe τ vs ∧ Q σ' H'
theorem wipe_setOut {σ : L2.St} {i : Nat} {x : Option V} : ∀ {vs : List Nat}, L2.wipe (σ.set i x) vs = if i ∈ vs then L2.wipe σ vs else (L2.wipe σ vs).set i x
  | [] => by simp [L2.wipe]
  | v :: vs => by
    show (L2.wipe (σ.set i x) vs).set v none = _
    rw [wipe_setOut (vs := vs)]
    by_cases q : i = v
    · subst q
      rw [if_pos List.mem_cons_self]
      split
      · rfl
      · show ((L2.wipe σ vs).set i x).set i none = (L2.wipe σ vs).set i none
        rw [List.set_set]
    · by_cases m : i ∈ vs
      · rw [if_pos m, if_pos (List.mem_cons_of_mem _ m)]; rfl
      · rw [if_neg m, if_neg (fun z => by rcases List.mem_cons.mp z with y | y; exact q y; exact m y)]
        show ((L2.wipe σ vs).set i x).set v none = ((L2.wipe σ vs).set v none).set i x
        rw [List.set_comm _ _ q]
theorem wipe_wipe {σ : L2.St} : ∀ {vs ws : List Nat}, (∀ i ∈ vs, i ∈ ws) → L2.wipe (L2.wipe σ vs) ws = L2.wipe σ ws
  | [], _, _ => rfl
  | v :: vs, ws, h => by
    show L2.wipe ((L2.wipe σ vs).set v none) ws = _
    rw [wipe_setOut, if_pos (h v List.mem_cons_self)]
    exact wipe_wipe fun i hi => h i (List.mem_cons_of_mem _ hi)
theorem gi_name {i : Nat} {vs : List Nat} (h : i ∈ vs := by decide) : GIn (gName i) vs := fun v σ H Q τ e k => by
  have e' : L2.wipe (σ.set i (some v)) vs = L2.wipe τ vs := by rw [wipe_setOut, if_pos h]; exact e
  exact ⟨e', k e'⟩
theorem gis_nil {vs : List Nat} : GsIn gNil vs := fun v σ H Q τ e k => ⟨k.1, e, k.2 e⟩
theorem gis_cons {g : TG} {u : TGs} {vs : List Nat} (hm : ∀ v σ H (Q Q' : L2.St → Hp → Prop), (∀ a b, Q a b → Q' a b) → g v σ H Q → g v σ H Q') (h : GIn g vs) (h' : GsIn u vs) : GsIn (gCons g u) vs := fun ws σ H Q τ e ⟨v, r, e1, k⟩ =>
  ⟨v, r, e1, hm _ _ _ _ _ (fun σ1 H1 ⟨e1, k1⟩ => h' r σ1 H1 Q τ e1 k1) (h _ _ _ _ τ e (hm _ _ _ _ _ (fun a b z _ => z) k))⟩
theorem gi_tup {K : PySem.W.Frag} {m : Nat} {g : TGs} {vs : List Nat} (h : GsIn g vs) : GIn (gTup K m g) vs := fun v σ H Q τ e ⟨a, xs, e1, h1, h2, k⟩ => ⟨a, xs, e1, h1, h2, h _ _ _ _ τ e k⟩
theorem gm_name {i : Nat} : ∀ v σ H (Q Q' : L2.St → Hp → Prop), (∀ a b, Q a b → Q' a b) → gName i v σ H Q → gName i v σ H Q' := fun v σ H Q Q' k h => k _ _ h
theorem gi_two {K : PySem.W.Frag} {i j : Nat} {vs : List Nat} (hi : i ∈ vs := by decide) (hj : j ∈ vs := by decide) : GIn (gTup K 2 (gCons (gName i) (gCons (gName j) gNil))) vs :=
  gi_tup (gis_cons gm_name (gi_name hi) (gis_cons gm_name (gi_name hj) gis_nil))
/-- the tests of a comprehension -/
def HTt (S : Sit) (tt : TT) (n : Nat) (Γ : Slots) (K : Nat → Slots → Bool → Prop) : Prop :=
  ∀ Δ σ vs H Q, S.At n Γ Δ σ vs H → (∀ n' Γ' b H2, K n' Γ' b → S.At n' Γ' Δ σ vs H2 → Q b H2) → tt σ H Q
section
variable {S : Sit} {n : Nat} {Γ : Slots} {K : Nat → Slots → OT → Prop} {KB : Nat → Slots → Bool → Prop} {pos p : Pos}
theorem ht_b {scope : Scope} {e : Expr} (h : HTb S scope e n Γ KB) : HTt S (bT S.X scope e) n Γ KB := fun Δ σ vs H Q a q s H0 C cl fp => h s H0 C cl fp Δ σ vs H Q a q
theorem ht_yes (h : KB n Γ true) : HTt S tYes n Γ KB := fun Δ σ vs H Q a q => q n Γ true H h a
/-- what a comprehension's run asks -/
def LcPrem (S : Sit) (elt tg iter : Expr) (scope : Scope) (own : List (Str × Nat)) (g : TG) (tt : TT) (n : Nat) (Γ : Slots) (K : Nat → Slots → OT → Prop) : Prop :=
  HI S tg iter n Γ fun n1 Γ1 ds => ds.length ≤ 100000 ∧ nones Γ1 (own.map (·.2)) ∧ ∃ I : Nat → List OT → Nat → Slots → Prop, I 0 [] n1 Γ1 ∧
      (∀ i acc n Γ d, ds[i]? = some d → I i acc n Γ → HG S g d n (wipeG Γ (own.map (·.2))) fun n Γ => HTt S tt n Γ fun n Γ b => if b = true then HEb S scope elt n Γ fun n Γ r => I (i + 1) (acc ++ [r]) n (wipeG Γ (own.map (·.2))) else I (i + 1) acc n (wipeG Γ (own.map (·.2)))) ∧
      ∀ acc n Γ, I ds.length acc n Γ → K n Γ (.ol acc)
theorem lc_run {elt tg iter : Expr} {scope : Scope} {own : List (Str × Nat)} {g : TG} {tt : TT} (h : LcPrem S elt tg iter scope own g tt n Γ K) (gi : GIn g (own.map (·.2))) (hP : ∀ i ∈ own.map (·.2), S.E.P.getD i none = none)
    {Δ : List OT} {σ : L2.St} {vs : List V} {H : Hp} {Q : VK} (at0 : S.At n Γ Δ σ vs H) (q : ∀ n' Γ' r v H2, K n' Γ' r → S.At n' Γ' (r :: Δ) σ (v :: vs) H2 → Q v H2) : tLc (cPI S.X tg iter) g tt (bE S.X scope elt) (own.map (·.2)) σ H Q := by
  refine h Δ σ vs H _ at0 fun n1 Γ1 ds ts0 vs0 J H1 ⟨hz, hn, I, h0, hst, hd⟩ hl a1 wk D hD => ?_
  have hl' : vs0.length = (ts0.map OT.frz).length := by rw [hl, List.length_map]
  have hpin := At.pinned at0
  refine ⟨fun i k H => i + k = ds.length ∧ ∃ n Γ acc, acc.length ≤ i ∧ nones Γ (own.map (·.2)) ∧ I i acc n Γ ∧ S.At n Γ (ts0.map OT.frz ++ (.ol acc :: Δ)) σ (vs0 ++ (.ref D :: vs)) H, ⟨ds.length, by omega, n1, Γ1, [], Nat.zero_le _, hn, h0, ?_⟩, fun i k H2 ⟨e, n2, Γ2, acc, hal, hn2, hi, a2⟩ => ?_⟩
  · obtain ⟨B, F, G, a1⟩ := a1
    obtain ⟨B', F', G', a3⟩ := a1.newL (ds := []) (xs := []) hD rfl
    obtain ⟨G2, a4⟩ := AtB.rotI a3 hl'
    exact ⟨B', F', G2, a4⟩
  · obtain ⟨w1, w2⟩ := At.walk a2 hl wk
    by_cases qi : i < ds.length
    · obtain ⟨g1, y1⟩ := w1 i _ (List.getElem?_eq_getElem qi)
      refine .inr ⟨g1, fun H' => ∃ n Γ acc, acc.length ≤ i + 1 ∧ nones Γ (own.map (·.2)) ∧ I (i + 1) acc n Γ ∧ S.At n Γ (ts0.map OT.frz ++ (.ol acc :: Δ)) σ (vs0 ++ (.ref D :: vs)) H', fun H' ⟨n3, Γ3, acc3, h1, h2, h3, h4⟩ => ⟨k - 1, by omega, by omega, n3, Γ3, acc3, h1, h2, h3, h4⟩, fun x H3 hy => ?_⟩
      have a3 := y1 x H3 hy
      refine gi _ _ _ _ σ (wipe_wipe fun _ h => h) (hst i acc n2 Γ2 _ (List.getElem?_eq_getElem qi) hi _ (L2.wipe σ (own.map (·.2))) x _ H3 _ (At.wipe a3 hP) fun n3 Γ3 σ3 H4 hk a4 hw => ?_)
      refine hk _ σ3 _ H4 _ a4 fun n4 Γ4 b H5 hk a5 => ?_
      cases b with
      | false => exact ⟨n4, _, acc, by omega, nones_wipe, hk, At.unwipe a5 hw hpin⟩
      | true =>
        intro s0 H0 C cl fp
        refine hk s0 H0 C cl fp _ σ3 _ H5 _ a5 fun n5 Γ5 r w H6 hk a6 => ?_
        obtain ⟨ys, e1, e2, a7⟩ := At.appT a6 hl'
        exact ⟨ys, e1, sz_lt (by omega), n5, _, _, by rw [List.length_append]; exact Nat.succ_le_succ hal, nones_wipe, hk, At.unwipe a7 hw hpin⟩
    · have e : i = ds.length := by omega
      subst e
      exact .inl ⟨w2 _ (Nat.le_refl _), q n2 Γ2 _ _ H2 (hd acc n2 Γ2 hi) (At.pops a2 hl')⟩
theorem he_lcT {elt tg iter : Expr} {ifs : List Expr} {scope : Scope} {own : List (Str × Nat)} {g : TG} {tt : TT}
    (h : LcPrem S elt tg iter scope own g tt n Γ K)
    (ok : BlkOk S.X.N S.X.env.scope scope own) (hN : S.X.N.Nodup) (hg : ∀ (s : Shared) (H : Hp) (C : Addr) (cl : List (Str × Addr)) (fp : List Addr), PG (S.X.blk s H scope (compEnvC scope cl C S.X.env) fp) tg g)
    (ht : ∀ (s : Shared) (H : Hp) (C : Addr) (cl : List (Str × Addr)) (fp : List Addr), PTs (S.X.blk s H scope (compEnvC scope cl C S.X.env) fp) ifs tt) (gi : GIn g (own.map (·.2))) (hP : ∀ i ∈ own.map (·.2), S.E.P.getD i none = none)
    (hc : S.X.calm = true := by rfl) (hs : ∀ x, foldedSetIterable iter S.X.env x = pure x := by intro _; rfl) : HE S (.ListComp elt [⟨tg, iter, ifs, 0⟩] scope pos) n Γ K := fun Δ σ vs H Q at0 q => ⟨_, pe_lc hc hN pi_c ok hg ht pe_b hs, lc_run h gi hP at0 q⟩
/-- x = [..], x a plain local name -/
theorem hs_lcT {P : Post} (i : Nat) {x : Str} {px spos : Pos} {elt tg iter : Expr} {ifs : List Expr} {scope : Scope} {own : List (Str × Nat)} {g : TG} {tt : TT}
    (h : LcPrem S elt tg iter scope own g tt n Γ fun n1 Γ1 r => i < Γ1.length ∧ S.E.P.getD i none = none ∧ P.nx n1 (Γ1.set i (some r)))
    (hi : S.X.N[i]? = some x) (hxl : S.X.env.scope.names.lookup x = some .local) (hsw : swapsWith (.ListComp elt [⟨tg, iter, ifs, 0⟩] scope pos) (some (.Name x px)) spos.line S.X.env = pure true)
    (ok : BlkOk S.X.N S.X.env.scope scope own) (hN : S.X.N.Nodup) (hg : ∀ (s : Shared) (H : Hp) (C : Addr) (cl : List (Str × Addr)) (fp : List Addr), PG (S.X.blk s H scope (compEnvC scope cl C S.X.env) fp) tg g)
    (ht : ∀ (s : Shared) (H : Hp) (C : Addr) (cl : List (Str × Addr)) (fp : List Addr), PTs (S.X.blk s H scope (compEnvC scope cl C S.X.env) fp) ifs tt) (gi : GIn g (own.map (·.2))) (hP : ∀ i ∈ own.map (·.2), S.E.P.getD i none = none)
    (hc : S.X.calm = true := by rfl) (hs : ∀ x, foldedSetIterable iter S.X.env x = pure x := by intro _; rfl) : HS S (.Assign [.Name x px] (.ListComp elt [⟨tg, iter, ifs, 0⟩] scope pos) spos) n Γ P := by
  intro Δ σ vs H D a m
  refine ⟨_, ps_setLc hc hN hi hxl hsw pi_c ok hg ht pe_b hs, lc_run h gi hP a fun n1 Γ1 r v H1 ⟨h1, h2, hk⟩ a1 => ?_⟩
  obtain ⟨B, F, G, a1⟩ := a1
  obtain ⟨F', G', a2⟩ := a1.store h1 h2
  exact m.nx n1 _ _ H1 hk ⟨B, F', G', a2⟩
/-- [elt for tg in iter] -/
theorem pr_0 {elt tg iter : Expr} {scope : Scope} (own : List (Str × Nat)) (g : TG)
    (h : HI S tg iter n Γ fun n1 Γ1 ds => ds.length ≤ 100000 ∧ wipeG Γ1 (own.map (·.2)) = Γ1 ∧ ∃ I : Nat → List OT → Nat → Slots → Prop, I 0 [] n1 Γ1 ∧
      (∀ i acc n Γ d, ds[i]? = some d → I i acc n Γ → HG S g d n (wipeG Γ (own.map (·.2))) fun n Γ => HEb S scope elt n Γ fun n Γ r => I (i + 1) (acc ++ [r]) n (wipeG Γ (own.map (·.2)))) ∧
      ∀ acc n Γ, I ds.length acc n Γ → K n Γ (.ol acc)) : LcPrem S elt tg iter scope own g tYes n Γ K :=
  fun Δ σ vs H R a q => h Δ σ vs H R a fun n' Γ' ds ts0 vs0 J H2 ⟨h1, h2, I, h3, h4, h5⟩ => q n' Γ' ds ts0 vs0 J H2 ⟨h1, h2 ▸ nones_wipe, I, h3, fun i acc n Γ d hd hi Δ σ v vs H Q a q => h4 i acc n Γ d hd hi Δ σ v vs H Q a fun n Γ σ H hk => q n Γ σ H (ht_yes (KB := fun n Γ b => if b = true then HEb S scope elt n Γ fun n Γ r => I (i + 1) (acc ++ [r]) n (wipeG Γ (own.map (·.2))) else I (i + 1) acc n (wipeG Γ (own.map (·.2)))) hk), h5⟩
theorem he_lc0 {elt tg iter : Expr} {scope : Scope} (own : List (Str × Nat)) (g : TG)
    (h : HI S tg iter n Γ fun n1 Γ1 ds => ds.length ≤ 100000 ∧ wipeG Γ1 (own.map (·.2)) = Γ1 ∧ ∃ I : Nat → List OT → Nat → Slots → Prop, I 0 [] n1 Γ1 ∧
      (∀ i acc n Γ d, ds[i]? = some d → I i acc n Γ → HG S g d n (wipeG Γ (own.map (·.2))) fun n Γ => HEb S scope elt n Γ fun n Γ r => I (i + 1) (acc ++ [r]) n (wipeG Γ (own.map (·.2)))) ∧
      ∀ acc n Γ, I ds.length acc n Γ → K n Γ (.ol acc))
    (ok : BlkOk S.X.N S.X.env.scope scope own) (hN : S.X.N.Nodup) (hg : ∀ (s : Shared) (H : Hp) (C : Addr) (cl : List (Str × Addr)) (fp : List Addr), PG (S.X.blk s H scope (compEnvC scope cl C S.X.env) fp) tg g)
    (gi : GIn g (own.map (·.2))) (hP : ∀ i ∈ own.map (·.2), S.E.P.getD i none = none)
    (hc : S.X.calm = true := by rfl) (hs : ∀ x, foldedSetIterable iter S.X.env x = pure x := by intro _; rfl) : HE S (.ListComp elt [⟨tg, iter, [], 0⟩] scope pos) n Γ K :=
  he_lcT (tt := tYes) (pr_0 own g h) ok hN hg (fun _ _ _ _ _ => pts_nil) gi hP hc hs
/-- [elt for tg in iter if c] -/
theorem pr_1 {elt tg iter c : Expr} {scope : Scope} (own : List (Str × Nat)) (g : TG)
    (h : HI S tg iter n Γ fun n1 Γ1 ds => ds.length ≤ 100000 ∧ wipeG Γ1 (own.map (·.2)) = Γ1 ∧ ∃ I : Nat → List OT → Nat → Slots → Prop, I 0 [] n1 Γ1 ∧
      (∀ i acc n Γ d, ds[i]? = some d → I i acc n Γ → HG S g d n (wipeG Γ (own.map (·.2))) fun n Γ => HTb S scope c n Γ fun n Γ b => if b = true then HEb S scope elt n Γ fun n Γ r => I (i + 1) (acc ++ [r]) n (wipeG Γ (own.map (·.2))) else I (i + 1) acc n (wipeG Γ (own.map (·.2)))) ∧
      ∀ acc n Γ, I ds.length acc n Γ → K n Γ (.ol acc)) : LcPrem S elt tg iter scope own g (bT S.X scope c) n Γ K :=
  fun Δ σ vs H R a q => h Δ σ vs H R a fun n' Γ' ds ts0 vs0 J H2 ⟨h1, h2, I, h3, h4, h5⟩ => q n' Γ' ds ts0 vs0 J H2 ⟨h1, h2 ▸ nones_wipe, I, h3, fun i acc n Γ d hd hi Δ σ v vs H Q a q => h4 i acc n Γ d hd hi Δ σ v vs H Q a fun n Γ σ H hk => q n Γ σ H (ht_b hk), h5⟩
theorem he_lc1 {elt tg iter c : Expr} {scope : Scope} (own : List (Str × Nat)) (g : TG)
    (h : HI S tg iter n Γ fun n1 Γ1 ds => ds.length ≤ 100000 ∧ wipeG Γ1 (own.map (·.2)) = Γ1 ∧ ∃ I : Nat → List OT → Nat → Slots → Prop, I 0 [] n1 Γ1 ∧
      (∀ i acc n Γ d, ds[i]? = some d → I i acc n Γ → HG S g d n (wipeG Γ (own.map (·.2))) fun n Γ => HTb S scope c n Γ fun n Γ b => if b = true then HEb S scope elt n Γ fun n Γ r => I (i + 1) (acc ++ [r]) n (wipeG Γ (own.map (·.2))) else I (i + 1) acc n (wipeG Γ (own.map (·.2)))) ∧
      ∀ acc n Γ, I ds.length acc n Γ → K n Γ (.ol acc))
    (ok : BlkOk S.X.N S.X.env.scope scope own) (hN : S.X.N.Nodup) (hg : ∀ (s : Shared) (H : Hp) (C : Addr) (cl : List (Str × Addr)) (fp : List Addr), PG (S.X.blk s H scope (compEnvC scope cl C S.X.env) fp) tg g)
    (gi : GIn g (own.map (·.2))) (hP : ∀ i ∈ own.map (·.2), S.E.P.getD i none = none)
    (hc : S.X.calm = true := by rfl) (hs : ∀ x, foldedSetIterable iter S.X.env x = pure x := by intro _; rfl) : HE S (.ListComp elt [⟨tg, iter, [c], 0⟩] scope pos) n Γ K :=
  he_lcT (tt := (bT S.X scope c)) (pr_1 own g h) ok hN hg (fun s H C cl fp => pts_one (pt_b s H C cl fp)) gi hP hc hs
/-- the same for each item, nothing else changed -/
theorem pr_map {elt tg iter : Expr} {scope : Scope} (own : List (Str × Nat)) (g : TG) (f : D → OT)
    (h : HI S tg iter n Γ fun n1 Γ1 ds => ds.length ≤ 100000 ∧ wipeG Γ1 (own.map (·.2)) = Γ1 ∧
      (∀ d ∈ ds, HG S g d n1 Γ1 fun n2 Γ2 => HEb S scope elt n2 Γ2 fun n3 Γ3 r => n3 = n1 ∧ wipeG Γ3 (own.map (·.2)) = Γ1 ∧ r = f d) ∧ K n1 Γ1 (.ol (ds.map f))) : LcPrem S elt tg iter scope own g tYes n Γ K :=
  pr_0 own g (fun Δ σ vs H R a q => h Δ σ vs H R a fun n' Γ' ds ts0 vs0 J H2 ⟨h1, h2, h3, h4⟩ => q n' Γ' ds ts0 vs0 J H2 ⟨h1, h2, fun i acc n Γ => n = n' ∧ Γ = Γ' ∧ acc = (ds.take i).map f, ⟨rfl, rfl, rfl⟩, fun i acc n Γ d hd ⟨e1, e2, e3⟩ => by
      subst e1 e2 e3
      rw [h2]
      refine fun Δ σ v vs H Q a q => h3 d (List.mem_of_getElem? hd) Δ σ v vs H Q a fun n2 Γ2 σ2 H2 hk => q n2 Γ2 σ2 H2 fun s H0 C cl fp Δ σ vs H Q a q => hk s H0 C cl fp Δ σ vs H Q a fun n3 Γ3 r v H3 ⟨z1, z2, z3⟩ => q n3 Γ3 r v H3 ⟨z1, z2, ?_⟩
      subst z3
      rw [List.take_add_one, hd, List.map_append]
      rfl, fun acc n Γ ⟨e1, e2, e3⟩ => by
      subst e1 e2 e3
      rw [List.take_length]
      exact h4⟩)
theorem he_map {elt tg iter : Expr} {scope : Scope} (own : List (Str × Nat)) (g : TG) (f : D → OT)
    (h : HI S tg iter n Γ fun n1 Γ1 ds => ds.length ≤ 100000 ∧ wipeG Γ1 (own.map (·.2)) = Γ1 ∧
      (∀ d ∈ ds, HG S g d n1 Γ1 fun n2 Γ2 => HEb S scope elt n2 Γ2 fun n3 Γ3 r => n3 = n1 ∧ wipeG Γ3 (own.map (·.2)) = Γ1 ∧ r = f d) ∧ K n1 Γ1 (.ol (ds.map f)))
    (ok : BlkOk S.X.N S.X.env.scope scope own) (hN : S.X.N.Nodup) (hg : ∀ (s : Shared) (H : Hp) (C : Addr) (cl : List (Str × Addr)) (fp : List Addr), PG (S.X.blk s H scope (compEnvC scope cl C S.X.env) fp) tg g)
    (gi : GIn g (own.map (·.2))) (hP : ∀ i ∈ own.map (·.2), S.E.P.getD i none = none)
    (hc : S.X.calm = true := by rfl) (hs : ∀ x, foldedSetIterable iter S.X.env x = pure x := by intro _; rfl) : HE S (.ListComp elt [⟨tg, iter, [], 0⟩] scope pos) n Γ K :=
  he_lcT (tt := tYes) (pr_map own g f h) ok hN hg (fun _ _ _ _ _ => pts_nil) gi hP hc hs
theorem pr_filter {elt tg iter c : Expr} {scope : Scope} (own : List (Str × Nat)) (g : TG) (p : D → Bool) (f : D → OT)
    (h : HI S tg iter n Γ fun n1 Γ1 ds => ds.length ≤ 100000 ∧ wipeG Γ1 (own.map (·.2)) = Γ1 ∧
      (∀ d ∈ ds, HG S g d n1 Γ1 fun n2 Γ2 => HTb S scope c n2 Γ2 fun n2 Γ2 b => b = p d ∧ (p d = true → HEb S scope elt n2 Γ2 fun n3 Γ3 r => n3 = n1 ∧ wipeG Γ3 (own.map (·.2)) = Γ1 ∧ r = f d) ∧ (p d = false → n2 = n1 ∧ wipeG Γ2 (own.map (·.2)) = Γ1)) ∧ K n1 Γ1 (.ol ((ds.filter p).map f))) : LcPrem S elt tg iter scope own g (bT S.X scope c) n Γ K :=
  pr_1 own g (fun Δ σ vs H R a q => h Δ σ vs H R a fun n' Γ' ds ts0 vs0 J H2 ⟨h1, h2, h3, h4⟩ => q n' Γ' ds ts0 vs0 J H2 ⟨h1, h2, fun i acc n Γ => n = n' ∧ Γ = Γ' ∧ acc = ((ds.take i).filter p).map f, ⟨rfl, rfl, rfl⟩, fun i acc n Γ d hd ⟨e1, e2, e3⟩ => by
      subst e1 e2 e3
      rw [h2]
      refine fun Δ σ v vs H Q a q => h3 d (List.mem_of_getElem? hd) Δ σ v vs H Q a fun n2 Γ2 σ2 H2 hk => q n2 Γ2 σ2 H2 fun s H0 C cl fp Δ σ vs H Q a q => hk s H0 C cl fp Δ σ vs H Q a fun n3 Γ3 b H3 ⟨z1, z2, z3⟩ => q n3 Γ3 b H3 ?_
      subst z1
      have tk : ((ds.take (i + 1)).filter p).map f = ((ds.take i).filter p).map f ++ (if p d = true then [f d] else []) := by
        rw [List.take_add_one, hd, List.filter_append, List.map_append]
        congr 1
        show (List.filter p [d]).map f = _
        rw [List.filter_cons]
        split <;> rfl
      cases pd : p d with
      | true =>
        rw [if_pos rfl]
        refine fun s H0 C cl fp Δ σ vs H Q a q => z2 pd s H0 C cl fp Δ σ vs H Q a fun n3 Γ3 r v H3 ⟨z1, z2, z3⟩ => q n3 Γ3 r v H3 ⟨z1, z2, ?_⟩
        subst z3
        rw [tk, if_pos pd]
      | false =>
        rw [if_neg (fun z => by cases z)]
        refine ⟨(z3 pd).1, (z3 pd).2, ?_⟩
        rw [tk, if_neg (fun z => by rw [pd] at z; cases z), List.append_nil], fun acc n Γ ⟨e1, e2, e3⟩ => by
      subst e1 e2 e3
      rw [List.take_length]
      exact h4⟩)
theorem he_filter {elt tg iter c : Expr} {scope : Scope} (own : List (Str × Nat)) (g : TG) (p : D → Bool) (f : D → OT)
    (h : HI S tg iter n Γ fun n1 Γ1 ds => ds.length ≤ 100000 ∧ wipeG Γ1 (own.map (·.2)) = Γ1 ∧
      (∀ d ∈ ds, HG S g d n1 Γ1 fun n2 Γ2 => HTb S scope c n2 Γ2 fun n2 Γ2 b => b = p d ∧ (p d = true → HEb S scope elt n2 Γ2 fun n3 Γ3 r => n3 = n1 ∧ wipeG Γ3 (own.map (·.2)) = Γ1 ∧ r = f d) ∧ (p d = false → n2 = n1 ∧ wipeG Γ2 (own.map (·.2)) = Γ1)) ∧ K n1 Γ1 (.ol ((ds.filter p).map f)))
    (ok : BlkOk S.X.N S.X.env.scope scope own) (hN : S.X.N.Nodup) (hg : ∀ (s : Shared) (H : Hp) (C : Addr) (cl : List (Str × Addr)) (fp : List Addr), PG (S.X.blk s H scope (compEnvC scope cl C S.X.env) fp) tg g)
    (gi : GIn g (own.map (·.2))) (hP : ∀ i ∈ own.map (·.2), S.E.P.getD i none = none)
    (hc : S.X.calm = true := by rfl) (hs : ∀ x, foldedSetIterable iter S.X.env x = pure x := by intro _; rfl) : HE S (.ListComp elt [⟨tg, iter, [c], 0⟩] scope pos) n Γ K :=
  he_lcT (tt := bT S.X scope c) (pr_filter own g p f h) ok hN hg (fun s H C cl fp => pts_one (pt_b s H C cl fp)) gi hP hc hs
/-- x = [elt for tg in iter] -/
theorem hs_lc0 {P : Post} (i : Nat) {x : Str} {px spos : Pos} {elt tg iter : Expr} {scope : Scope} {own : List (Str × Nat)} {g : TG} (h : LcPrem S elt tg iter scope own g tYes n Γ fun n1 Γ1 r => i < Γ1.length ∧ S.E.P.getD i none = none ∧ P.nx n1 (Γ1.set i (some r)))
    (hi : S.X.N[i]? = some x)
    (ok : BlkOk S.X.N S.X.env.scope scope own) (hN : S.X.N.Nodup) (hg : ∀ (s : Shared) (H : Hp) (C : Addr) (cl : List (Str × Addr)) (fp : List Addr), PG (S.X.blk s H scope (compEnvC scope cl C S.X.env) fp) tg g)
    (gi : GIn g (own.map (·.2))) (hP : ∀ i ∈ own.map (·.2), S.E.P.getD i none = none)
    (hxl : S.X.env.scope.names.lookup x = some .local := by rfl) (hsw : swapsWith (.ListComp elt [⟨tg, iter, [], 0⟩] scope pos) (some (.Name x px)) spos.line S.X.env = pure true := by rfl)
    (hc : S.X.calm = true := by rfl) (hs : ∀ x, foldedSetIterable iter S.X.env x = pure x := by intro _; rfl) : HS S (.Assign [.Name x px] (.ListComp elt [⟨tg, iter, [], 0⟩] scope pos) spos) n Γ P :=
  hs_lcT i h hi hxl hsw ok hN hg (fun _ _ _ _ _ => pts_nil) gi hP hc hs
/-- x = [elt for tg in iter if c] -/
theorem hs_lc1 {P : Post} (i : Nat) {x : Str} {px spos : Pos} {elt tg iter c : Expr} {scope : Scope} {own : List (Str × Nat)} {g : TG} (h : LcPrem S elt tg iter scope own g (bT S.X scope c) n Γ fun n1 Γ1 r => i < Γ1.length ∧ S.E.P.getD i none = none ∧ P.nx n1 (Γ1.set i (some r)))
    (hi : S.X.N[i]? = some x)
    (ok : BlkOk S.X.N S.X.env.scope scope own) (hN : S.X.N.Nodup) (hg : ∀ (s : Shared) (H : Hp) (C : Addr) (cl : List (Str × Addr)) (fp : List Addr), PG (S.X.blk s H scope (compEnvC scope cl C S.X.env) fp) tg g)
    (gi : GIn g (own.map (·.2))) (hP : ∀ i ∈ own.map (·.2), S.E.P.getD i none = none)
    (hxl : S.X.env.scope.names.lookup x = some .local := by rfl) (hsw : swapsWith (.ListComp elt [⟨tg, iter, [c], 0⟩] scope pos) (some (.Name x px)) spos.line S.X.env = pure true := by rfl)
    (hc : S.X.calm = true := by rfl) (hs : ∀ x, foldedSetIterable iter S.X.env x = pure x := by intro _; rfl) : HS S (.Assign [.Name x px] (.ListComp elt [⟨tg, iter, [c], 0⟩] scope pos) spos) n Γ P :=
  hs_lcT i h hi hxl hsw ok hN hg (fun s H C cl fp => pts_one (pt_b s H C cl fp)) gi hP hc hs
end
end DL

set_option Elab.async false
set_option linter.all false
set_option maxRecDepth 100000
set_option maxHeartbeats 4000000
/-! DLQ: enumerate over a tuple. -/
namespace DLQ
open PySem PySem.Spec PyProof.Rows L2
open Sem (wp)
open AutoSeq1 (wpAny_loadPart')

theorem meets_enumerate_newT (l : Addr) (items : Array Value) (n : Nat) (dct : Option Addr) (sl : Array (Option Value)) :
    Meets (Builtin.«enumerate.__new__» ⟨[.type "enumerate", .ref l], []⟩) (fun _ R s => s.heap.get? l = some { cls := .type "tuple", dict := dct, data := .seq items n, slots := sl } ∧
      R (.ok (.ret (.ref (s.heap.push { cls := .type "tuple_iterator", data := .fields #[.ref l, .int 0 0] }).objs.size)))
        { s with heap := (s.heap.push { cls := .type "tuple_iterator", data := .fields #[.ref l, .int 0 0] }).push { cls := .type "enumerate", data := .fields #[.none, .bool false, .ref s.heap.objs.size, rawInt 0, .none, .none] } }) :=
  .of_wp fun prog w A R s h => by
    obtain ⟨hp, g, d, tk, os⟩ := s; obtain ⟨hl, h⟩ := h
    have hsub := sub_enumerate
    have hL : Heap.IsTuple (Shared.heap ⟨hp, g, d, tk, os⟩) l items := ⟨_, hl, rfl, n, rfl⟩
    wp_walk using wpAny_loadPart' hl
    refine wpAny_stack_any fun st => wpAny_pure ?_
    split
    · rename_i c _ _ _ _ _
      cases (c == Value.type "enumerate")
      · wp_walk using wpAny_loadPart' hl, wpAny_pyIter_tuple hL
        exact ⟨_, rfl, h⟩
      · wp_walk using wpAny_loadPart' hl, wpAny_pyIter_tuple hL
        exact ⟨_, rfl, h⟩
    · wp_walk using wpAny_loadPart' hl, wpAny_pyIter_tuple hL
      exact ⟨_, rfl, h⟩
section
variable {prog : Program} {w : World} {A : Around} {E : Value → Shared → Prop} {s : Shared}
theorem call_enumerate_tuple {l : Addr} {items : Array Value} {Q : Value → Shared → Prop} (hL : s.heap.IsTuple l items)
    (h : ∀ h', IsEnum h' (s.heap.objs.size + 1) s.heap.objs.size 0 .none → h'.IsTupleIter s.heap.objs.size l 0 → h'.objs.size = s.heap.objs.size + 2 →
      (∀ b o, s.heap.get? b = some o → h'.get? b = some o) → Q (.ref (s.heap.objs.size + 1)) { s with heap := h' }) :
    wpAny (model prog w) A (call (.type "enumerate") [.ref l]) Q E s := by
  obtain ⟨⟨c, dct, dt, sl⟩, hl, hc, n, hd⟩ := hL
  replace hc : c = .type "tuple" := hc
  replace hd : dt = .seq items n := hd
  subst hc hd
  refine callType_new F.called_enumerate (by decide) (F.typeCall_enumerate_1 _) (F.newCall_enumerate_1 _) (fun obj => F.args_object_init_2 obj _) F.entry_enumerate_new
    (meets_enumerate_newT l items n dct sl) ⟨hl, ?_⟩
  have hz : (s.heap.push { cls := .type "tuple_iterator", data := .fields #[.ref l, .int 0 0] }).objs.size = s.heap.objs.size + 1 := Heap.size_push ..
  show _ ∧ _
  rw [hz]
  have he : IsEnum ((s.heap.push { cls := .type "tuple_iterator", data := .fields #[.ref l, .int 0 0] }).push
      { cls := .type "enumerate", data := .fields #[.none, .bool false, .ref s.heap.objs.size, rawInt 0, .none, .none] }) (s.heap.objs.size + 1) s.heap.objs.size 0 .none := by
    have := Heap.get?_push_size (s.heap.push { cls := .type "tuple_iterator", data := .fields #[.ref l, .int 0 0] })
      (o := { cls := .type "enumerate", data := .fields #[.none, .bool false, .ref s.heap.objs.size, rawInt 0, .none, .none] }) rfl
    rw [hz] at this; exact this
  refine ⟨⟨_, he, rfl⟩, h _ he ⟨_, Heap.get?_push_of_some _ (Heap.get?_push_size _ rfl), rfl, rfl⟩ (by rw [Heap.size_push, hz]) fun b o x => Heap.get?_push_of_some _ (Heap.get?_push_of_some _ x)⟩
end
theorem drawsT {prog : Program} {w : World} {A : Around} (hh : A.handled = none) (it t : Addr) (hne : t ≠ it) (items : Array Value) :
    Draws prog w A it [it, t] items.size (fun i v => items[i]? = some v) (fun i h => h.IsTupleIter it t i ∧ h.IsTuple t items) where
  live := fun _ _ st => let ⟨o, ho, _⟩ := st.1; ⟨o, ho⟩
  frame := fun _ _ _ st hk => ⟨st.1.at fun o e => hk it (by simp) o e, st.2.at fun o e => hk t (by simp) o e⟩
  item := fun i s Q E hi st hQ => by
    refine RZ.nextOf_tuple_item st.1 st.2 (x := items[i]) (by simp [hi]) fun h' hit' hs' => ?_
    exact hQ _ h' s.toks (by simp [hi]) ⟨hit', st.2.extBut hs'.extBut hne⟩ hs'
  done := fun s Q E st hE => RZ.nextOf_tuple_end hh st.1 st.2 (by simp) hE

theorem drawsE {prog : Program} {w : World} {A : Around} (hh : A.handled = none) (it t : Addr) (hne : t ≠ it) (items : Array Value) (n : Nat) (hx : items[n]? = none) :
    Draws prog w A it [it, t] n (fun _ _ => False) (fun i h => n ≤ i ∧ h.IsTupleIter it t i ∧ h.IsTuple t items) where
  live := fun _ _ st => let ⟨o, ho, _⟩ := st.2.1; ⟨o, ho⟩
  frame := fun _ _ _ st hk => ⟨st.1, st.2.1.at fun o e => hk it (by simp) o e, st.2.2.at fun o e => hk t (by simp) o e⟩
  item := fun i s Q E hi st hQ => absurd hi (Nat.not_lt.mpr st.1)
  done := fun s Q E st hE => RZ.nextOf_tuple_end hh st.2.1 st.2.2 hx hE
/-- the tuple at a, each item in a new pair -/
def ItT (K : PySem.W.Frag) (a : Addr) : It :=
  ⟨fun i H => ∃ (xs : List V) (x : V), SqT K H a xs ∧ xs[i]? = some x, fun i H v H' => ∃ T x, v = .ref T ∧ H T = none ∧ H' = upd H T (.tup [.int (i : Nat), x]) ∧ ∀ xs, SqT K H a xs → xs[i]? = some x, fun i H => ∃ xs : List V, SqT K H a xs ∧ xs.length ≤ i⟩
theorem turn_enumT {P : Program} {w : World} {K : PySem.W.Frag} {elts : List Expr} {kk : Nat} {tpos : Pos} (a e it : Addr) (hai : a ≠ it) (hae : a ≠ e) :
    Turn P w K (.Tuple elts kk tpos) (ItT K a) [e, it] e (fun i h => (∃ old, IsEnum h e it ((i : Nat) : Int) old) ∧ h.IsTupleIter it a i ∧ e ≠ it) where
  mem := by simp
  obj := fun i h st b hb => by
    obtain ⟨⟨old, he⟩, ⟨o, ho, hc, hd⟩, _⟩ := st
    have e' : b = e ∨ b = it := by simpa using hb
    rcases e' with z | z
    · rw [z]; exact ⟨_, he, fun v q => nomatch q⟩
    · rw [z]; exact ⟨o, ho, fun v q => by rw [hd] at q; cases q⟩
  keep := fun i h h' st k => let ⟨⟨old, he⟩, hi, hne⟩ := st; ⟨⟨old, k e (by simp) _ he⟩, hi.at fun o q => k it (by simp) o q, hne⟩
  item := by
    intro X hP hw hK hc i pins s σ H E I hf st hg
    subst hP hw hK
    obtain ⟨⟨old, he⟩, hit, hne⟩ := st
    obtain ⟨xs, x, hq, hx⟩ := hg
    obtain ⟨its, rv, p, hz⟩ := I.tuple hq
    obtain ⟨u, hu, ru⟩ := rv.get hx
    have hel : e < s.heap.objs.size := Heap.lt_size he
    have hil : it < s.heap.objs.size := by obtain ⟨_, q, _⟩ := hit; exact Heap.lt_size q
    have hu' : its.toArray[i]? = some u := by simpa using hu
    have hi : i < its.toArray.size := (Array.getElem?_eq_some_iff.mp hu').1
    refine wpAny_pyNext_enum_itemD (drawsT (A := X.A.in1) (I.ok.hd hc) it a hai its.toArray) he ⟨hit, p⟩ hi hne (by simp [hne, Ne.symm hae]) fun y h' tk hP ho st' hT hsz hk => ?_
    obtain rfl : y = u := Option.some.inj (hP.symm.trans hu')
    refine ⟨_, rfl, wpAny_letOwnedTupleGo_enum (s := { s with heap := h', toks := tk + 1 }) ho fun h'' he' sb => ?_⟩
    have hT2 : h''.get? s.heap.objs.size = some { cls := .type "tuple", data := .seq #[.int i tk, y] } := (sb.2 _ (Nat.ne_of_gt hel)).trans hT
    have new : ObjOk X.prog X.w (upd H s.heap.objs.size (.tup [.int (i : Nat), x])) h'' s.heap.objs.size (.tup [.int (i : Nat), x]) :=
      ⟨by show 2 ≤ sizeLine; decide, [.int i tk, y], .cons ⟨_, rfl⟩ (.cons ru .nil), ⟨_, hT2, rfl, _, rfl⟩⟩
    have I1 : Inv X pins σ (upd H s.heap.objs.size (.tup [.int (i : Nat), x])) { s with heap := h'', toks := tk + 1 } :=
      I.turnedNew (ch := [e, it]) (fun b ob hb q => (sb.2 b (fun z => hb (by simp [z]))).trans (hk b ob (fun z => hb (by simp [z])) (fun z => hb (by simp [z])) q)) hf (Nat.le_refl _) new
    refine ⟨.ref s.heap.objs.size, _, I1, rfl, ⟨_, x, rfl, I.hok.fresh (Nat.le_refl _), rfl, fun ys hy => by rw [I.tuple_inj hy hq]; exact hx⟩, ⟨⟨y, ?_⟩, st'.1.at fun o q => (sb.2 it (Ne.symm hne)).trans q, hne⟩, fun b hb => ?_⟩
    · have e1 : ((i + 1 : Nat) : Int) = (i : Int) + 1 := by omega
      rw [e1]; exact he'
    · have hb' : b < s.heap.objs.size := by
        have e' : b = e ∨ b = it := by simpa using hb
        rcases e' with z | z
        · rw [z]; exact hel
        · rw [z]; exact hil
      rw [upd_ne (Nat.ne_of_lt hb')]
      exact (hf b hb).1
  done := by
    intro X hP hw hK hc i pins s σ H E I hf st hg
    subst hP hw hK
    obtain ⟨⟨old, he⟩, hit, hne⟩ := st
    obtain ⟨xs, hq, hx⟩ := hg
    obtain ⟨its, rv, p, hz⟩ := I.tuple hq
    obtain ⟨f0, f1, f2, f3, f4, f5⟩ := hf it (by simp)
    have hl : its.toArray[i]? = none := by
      have := rv.length
      simp; omega
    exact wpAny_pyNext_enum_endD (drawsE (A := X.A.in1) (I.ok.hd hc) it a hai its.toArray i hl) he ⟨Nat.le_refl _, hit, p⟩ fun h' eb => ⟨rfl, I.turned (t' := s.toks) (fun b o hb q => eb b o hb q) f0 f1 f3 f4 f5⟩
  self := fun A i s Q E st h => let ⟨⟨_, he⟩, _⟩ := st; wpAny_pyIter_enum he h
def iEnumT (K : PySem.W.Frag) (ta : TA) : TI := fun σ H R => ta σ H fun vs H1 => ∃ a xs, vs = [.ref a] ∧ SqT K H1 a xs ∧ R (ItT K a) H1
theorem pi_enumT {X : Cx} {e : Expr} {ta : TA} {p pos tpos : Pos} {elts : List Expr} {kk : Nat} (hg : Gl X "enumerate") (hm : X.mg "enumerate" = none) (ha : PA X [e] ta) (hs : starEach [e] X.env = [(false, eval e X.env)] := by rfl) :
    PI X (.Tuple elts kk tpos) (.Call (.Name "enumerate" p) [e] [] pos) (iEnumT X.K ta) := by
  refine ⟨fun pins s σ H R I h => ?_⟩
  refine Call_ (ld_blt I hg hm boot_enumerate (PyProof.Rows.callWith_type1 (thn (ha.run pos pins s σ H _ I h) fun us s1 ⟨vs, H1, I1, r1, q1⟩ => ?_) hs rfl))
  obtain ⟨a, xs, ex, hq, q⟩ := q1
  subst ex
  cases r1 with
  | cons r rr =>
    cases rr
    cases r
    obtain ⟨its, rv, p', hz⟩ := I1.tuple hq
    have hlt : a < s1.heap.objs.size := by obtain ⟨o1, ho1, _⟩ := id p'; exact Heap.lt_size ho1
    refine call_enumerate_tuple (show s1.heap.IsTuple a its.toArray from p') fun h' he hit hsz hk => wpAny_pyIter_enum he ?_
    have I2 : Inv X pins σ H1 { s1 with heap := h' } := I1.kept (t' := s1.toks) hk
    refine ⟨s1.heap.objs.size + 1, [s1.heap.objs.size + 1, s1.heap.objs.size], _, _, H1, rfl, I2, turn_enumT a (s1.heap.objs.size + 1) s1.heap.objs.size (Nat.ne_of_lt hlt) (Nat.ne_of_lt (Nat.lt_succ_of_lt hlt)), ⟨⟨.none, he⟩, hit, Nat.succ_ne_self _⟩, fun b hb => ?_, q⟩
    have e' : b = s1.heap.objs.size + 1 ∨ b = s1.heap.objs.size := by simpa using hb
    have hle : s1.heap.objs.size ≤ b := by
      rcases e' with z | z
      · rw [z]; exact Nat.le_add_right _ _
      · rw [z]; exact Nat.le_refl _
    exact I1.fpOk hle (I1.hok.fresh hle)
end DLQ

set_option Elab.async false
set_option linter.all false
set_option maxRecDepth 100000
set_option maxHeartbeats 4000000
/-! DLJ: enumerate, zip; built-in functions; methods of texts and lists. -/
namespace DL
open PySem PySem.Spec PyProof.Rows L2 Evl

/-! ### enumerate, zip -/
def enumD (ds : List D) : List D := ds.zipIdx.map fun p => .tup [.int (p.2 : Int), p.1]
theorem enumD_at {ds : List D} {i : Nat} {e : D} (h : (enumD ds)[i]? = some e) : ∃ d, ds[i]? = some d ∧ e = .tup [.int (i : Int), d] := by
  unfold enumD at h
  rw [List.getElem?_map, List.getElem?_zipIdx] at h
  cases q : ds[i]? with
  | none => rw [q] at h; cases h
  | some d =>
    rw [q] at h
    have e1 := Option.some.inj h
    refine ⟨d, rfl, ?_⟩
    rw [← e1]
    simp
theorem enumD_len (ds : List D) : (enumD ds).length = ds.length := by unfold enumD; rw [List.length_map, List.length_zipIdx]
theorem pair_new {K : PySem.W.Frag} {B H : Hp} {T : Addr} {x y : V} {d e : D} (h : Ex B H) (hT : H T = none) (h1 : Rp K B d x) (h2 : Rp K B e y) : Grow H B (upd H T (.tup [x, y])) (upd B T (.tup [x, y])) ∧ Rp K (upd B T (.tup [x, y])) (.tup [d, e]) (.ref T) := by
  have g := Grow.frz (o := .tup [x, y]) h hT
  exact ⟨g, T, [x, y], rfl, .of upd_same, _, _, rfl, h1.mono g.exB, _, _, rfl, h2.mono g.exB, rfl⟩
theorem wk_enumL {K : PySem.W.Frag} {a : Addr} {ds : List D} : WkD K (Ite K a) [.lst ds] [.ref a] (enumD ds) := by
  intro B H e ⟨y, ys, e1, ⟨b, xs, e2, e3, e4⟩, _⟩
  obtain ⟨rfl, rfl⟩ := List.cons.inj e1
  cases e2
  refine ⟨fun i d hd => ?_, fun i hi => ⟨xs, SqL.of (e _ _ e3), by rw [e4.len]; rw [enumD_len] at hi; exact hi⟩⟩
  obtain ⟨d', h1, rfl⟩ := enumD_at hd
  obtain ⟨x, h2, h3⟩ := e4.get h1
  refine ⟨⟨xs, x, SqL.of (e _ _ e3), h2⟩, fun y H' ⟨T, x', hy, hT, hH, hx⟩ => ?_⟩
  have := hx xs (SqL.of (e _ _ e3))
  rw [h2] at this
  cases this
  obtain ⟨g, r⟩ := pair_new (d := .int (i : Int)) (x := .int (i : Int)) e hT rfl h3
  rw [hH, hy]
  exact ⟨_, g, r⟩
theorem wk_enumT {K : PySem.W.Frag} {a : Addr} {ds : List D} : WkD K (DLQ.ItT K a) [.tup ds] [.ref a] (enumD ds) := by
  intro B H e ⟨y, ys, e1, ⟨b, xs, e2, e3, e4⟩, _⟩
  obtain ⟨rfl, rfl⟩ := List.cons.inj e1
  cases e2
  refine ⟨fun i d hd => ?_, fun i hi => ⟨xs, ex_t e e3, by rw [e4.len]; rw [enumD_len] at hi; exact hi⟩⟩
  obtain ⟨d', h1, rfl⟩ := enumD_at hd
  obtain ⟨x, h2, h3⟩ := e4.get h1
  refine ⟨⟨xs, x, ex_t e e3, h2⟩, fun y H' ⟨T, x', hy, hT, hH, hx⟩ => ?_⟩
  have := hx xs (ex_t e e3)
  rw [h2] at this
  cases this
  obtain ⟨g, r⟩ := pair_new (d := .int (i : Int)) (x := .int (i : Int)) e hT rfl h3
  rw [hH, hy]
  exact ⟨_, g, r⟩
def zipD (as bs : List D) : List D := (as.zip bs).map fun p => .tup [p.1, p.2]
theorem zipD_at {as bs : List D} {i : Nat} {e : D} (h : (zipD as bs)[i]? = some e) : ∃ d c, as[i]? = some d ∧ bs[i]? = some c ∧ e = .tup [d, c] := by
  unfold zipD at h
  rw [List.getElem?_map] at h
  cases q : (as.zip bs)[i]? with
  | none => rw [q] at h; cases h
  | some z =>
    rw [q] at h
    obtain ⟨h1, h2⟩ := List.getElem?_zip_eq_some.mp q
    exact ⟨z.1, z.2, h1, h2, (Option.some.inj h).symm⟩
theorem zipD_end {as bs : List D} {i : Nat} (h : (zipD as bs).length ≤ i) : as.length ≤ i ∨ bs.length ≤ i := by
  unfold zipD at h
  rw [List.length_map, List.length_zip] at h
  omega
theorem wk_zipL {K : PySem.W.Frag} {a b : Addr} {as bs : List D} : WkD K (Itz K a b) [.lst as, .lst bs] [.ref a, .ref b] (zipD as bs) := by
  intro B H e ⟨y, ys, e1, ⟨a', xs, e2, e3, e4⟩, y2, ys2, q1, ⟨b', zs, q2, q3, q4⟩, _⟩
  obtain ⟨rfl, rfl⟩ := List.cons.inj e1
  obtain ⟨rfl, rfl⟩ := List.cons.inj q1
  cases e2
  cases q2
  refine ⟨fun i d hd => ?_, fun i hi => ⟨xs, zs, SqL.of (e _ _ e3), SqL.of (e _ _ q3), by rw [e4.len, q4.len]; exact zipD_end hi⟩⟩
  obtain ⟨d1, d2, h1, h2, rfl⟩ := zipD_at hd
  obtain ⟨x1, h3, h4⟩ := e4.get h1
  obtain ⟨x2, h5, h6⟩ := q4.get h2
  refine ⟨⟨xs, zs, x1, x2, SqL.of (e _ _ e3), SqL.of (e _ _ q3), h3, h5⟩, fun y H' ⟨T, u1, u2, hy, hT, hH, hx, hz⟩ => ?_⟩
  have w1 := hx xs (SqL.of (e _ _ e3))
  rw [h3] at w1
  cases w1
  have w2 := hz zs (SqL.of (e _ _ q3))
  rw [h5] at w2
  cases w2
  obtain ⟨g, r⟩ := pair_new e hT h4 h6
  rw [hH, hy]
  exact ⟨_, g, r⟩
theorem wk_zipT {K : PySem.W.Frag} {a b : Addr} {as bs : List D} : WkD K (RZ.ItzT K a b) [.tup as, .tup bs] [.ref a, .ref b] (zipD as bs) := by
  intro B H e ⟨y, ys, e1, ⟨a', xs, e2, e3, e4⟩, y2, ys2, q1, ⟨b', zs, q2, q3, q4⟩, _⟩
  obtain ⟨rfl, rfl⟩ := List.cons.inj e1
  obtain ⟨rfl, rfl⟩ := List.cons.inj q1
  cases e2
  cases q2
  refine ⟨fun i d hd => ?_, fun i hi => ⟨xs, zs, ex_t e e3, ex_t e q3, by rw [e4.len, q4.len]; exact zipD_end hi⟩⟩
  obtain ⟨d1, d2, h1, h2, rfl⟩ := zipD_at hd
  obtain ⟨x1, h3, h4⟩ := e4.get h1
  obtain ⟨x2, h5, h6⟩ := q4.get h2
  refine ⟨⟨xs, zs, x1, x2, ex_t e e3, ex_t e q3, h3, h5⟩, fun y H' ⟨T, u1, u2, hy, hT, hH, hx, hz⟩ => ?_⟩
  have w1 := hx xs (ex_t e e3)
  rw [h3] at w1
  cases w1
  have w2 := hz zs (ex_t e q3)
  rw [h5] at w2
  cases w2
  obtain ⟨g, r⟩ := pair_new e hT h4 h6
  rw [hH, hy]
  exact ⟨_, g, r⟩
section
variable {S : Sit} {n : Nat} {Γ : Slots} {K : Nat → Slots → OT → Prop} {KI : Nat → Slots → List D → Prop} {pos p tpos : Pos} {elts : List Expr} {kk : Nat}
theorem hi_enumL {e : Expr} (hm : S.X.mg "enumerate" = none) (h : HA S [e] n Γ fun n1 Γ1 rs => ∃ ds, rs = [.frz (.lst ds)] ∧ KI n1 Γ1 (enumD ds)) (hg : Gl S.X "enumerate" := by rfl) (hs : starEach [e] S.X.env = [(false, eval e S.X.env)] := by rfl) : HI S (.Tuple elts kk tpos) (.Call (.Name "enumerate" p) [e] [] pos) n Γ KI := by
  intro Δ σ vs H R at0 q
  refine ⟨_, pi_enum hg hm pa_c hs, h Δ σ vs H _ at0 fun n1 Γ1 rs xs H1 ⟨ds, e, hk⟩ hl a1 => ?_⟩
  subst e
  obtain ⟨v, rfl⟩ := one_of hl
  obtain ⟨B, hB, a, ys, rfl, e2, e3⟩ := At.val a1
  exact ⟨a, ys, rfl, .of (hB _ _ e2), q n1 Γ1 _ [.lst ds] [.ref a] _ H1 hk rfl a1 wk_enumL⟩
theorem hi_enumT {e : Expr} (hm : S.X.mg "enumerate" = none) (h : HA S [e] n Γ fun n1 Γ1 rs => ∃ ds, rs = [.frz (.tup ds)] ∧ KI n1 Γ1 (enumD ds)) (hg : Gl S.X "enumerate" := by rfl) (hs : starEach [e] S.X.env = [(false, eval e S.X.env)] := by rfl) : HI S (.Tuple elts kk tpos) (.Call (.Name "enumerate" p) [e] [] pos) n Γ KI := by
  intro Δ σ vs H R at0 q
  refine ⟨_, DLQ.pi_enumT hg hm pa_c hs, h Δ σ vs H _ at0 fun n1 Γ1 rs xs H1 ⟨ds, e, hk⟩ hl a1 => ?_⟩
  subst e
  obtain ⟨v, rfl⟩ := one_of hl
  obtain ⟨B, hB, a, ys, rfl, e2, e3⟩ := At.val a1
  exact ⟨a, ys, rfl, ex_t hB e2, q n1 Γ1 _ [.tup ds] [.ref a] _ H1 hk rfl a1 wk_enumT⟩
theorem hi_zip {e e2 : Expr} (hm : S.X.mg "zip" = none) (h : HA S [e, e2] n Γ fun n1 Γ1 rs => ∃ as bs, (rs = [.frz (.lst as), .frz (.lst bs)] ∨ rs = [.frz (.tup as), .frz (.tup bs)]) ∧ KI n1 Γ1 (zipD as bs)) (hg : Gl S.X "zip" := by rfl)
    (hs : starEach [e, e2] S.X.env = (false, eval e S.X.env) :: starEach [e2] S.X.env := by rfl) (hpl : (backTo pos (starEach [e2] S.X.env)).any (·.1) = false := by rfl) : HI S (.Tuple elts kk tpos) (.Call (.Name "zip" p) [e, e2] [] pos) n Γ KI := by
  intro Δ σ vs H R at0 q
  refine ⟨_, RZ.pi_zipA hg hm pa_c hs hpl, h Δ σ vs H _ at0 fun n1 Γ1 rs xs H1 ⟨as, bs, e, hk⟩ hl a1 => ?_⟩
  rcases e with e | e
  · subst e
    obtain ⟨v, w, rfl⟩ := two_of hl
    obtain ⟨B, hB, a, ys, rfl, e2, e3⟩ := At.val a1
    obtain ⟨B', hB', b, zs, rfl, q2, q3⟩ := At.val (At.pop a1)
    exact ⟨a, b, ys, zs, rfl, .inl ⟨.of (hB _ _ e2), .of (hB' _ _ q2), q n1 Γ1 _ [.lst as, .lst bs] [.ref a, .ref b] _ H1 hk rfl a1 wk_zipL⟩⟩
  · subst e
    obtain ⟨v, w, rfl⟩ := two_of hl
    obtain ⟨B, hB, a, ys, rfl, e2, e3⟩ := At.val a1
    obtain ⟨B', hB', b, zs, rfl, q2, q3⟩ := At.val (At.pop a1)
    exact ⟨a, b, ys, zs, rfl, .inr ⟨ex_t hB e2, ex_t hB' q2, q n1 Γ1 _ [.tup as, .tup bs] [.ref a, .ref b] _ H1 hk rfl a1 wk_zipT⟩⟩

/-! ### built-in functions of one thing -/
theorem od_ol (ds : List D) : OT.ds (ds.map OT.frz) = ds := by
  rw [OT.ds_map, List.map_map]
  exact List.map_id'' (fun _ => rfl) ds
theorem hf_frz1 {v : Value} {r : OT} (h : HF S v [.frz r.d] n Γ K) : HF S v [r] n Γ K := fun Δ σ xs vs H Q hl a q => by
  obtain ⟨x, rfl⟩ := one_of hl
  exact h Δ σ [x] vs H Q rfl (At.frz1 a) q
/-- a new list of a list's things is handed in -/
theorem hf_ol {v : Value} {ds : List D} (h : HF S v [.frz (.lst ds)] n Γ K) : HF S v [.ol (ds.map .frz)] n Γ K := hf_frz1 (by
  have e : (OT.ol (ds.map OT.frz)).d = .lst ds := by show D.lst _ = _; rw [od_ol]
  rw [e]; exact h)
theorem At.newL {Z : Wd} {E : Ent} {Δ : List OT} {σ : L2.St} {vs : List V} {H : Hp} {d : D} {v : V} {ds : List D} (a : DL.At Z E n Γ (.frz d :: Δ) σ (v :: vs) H) {xs : List V} {p : Addr} (hp : H p = none) (hr : ∀ B, Rp Z.K B d v → RpL Z.K B ds xs) : DL.At Z E n Γ (.ol (ds.map .frz) :: Δ) σ (.ref p :: vs) (upd H p (.lst xs)) := by
  obtain ⟨B, F, G, h⟩ := a
  obtain ⟨y', ys, F1, F2, e1, e2, e3, e4⟩ := id h.tm
  obtain ⟨rfl, rfl⟩ := List.cons.inj e1
  obtain ⟨G1, k1⟩ := h.pop1
  exact k1.newL hp (hr B e3.2)
theorem At.newT {Z : Wd} {E : Ent} {Δ : List OT} {σ : L2.St} {vs : List V} {H : Hp} {d : D} {v : V} {ds : List D} (a : DL.At Z E n Γ (.frz d :: Δ) σ (v :: vs) H) {xs : List V} {p : Addr} (hp : H p = none) (hr : ∀ B, Rp Z.K B d v → RpL Z.K B ds xs) : DL.At Z E n Γ (.frz (.tup ds) :: Δ) σ (.ref p :: vs) (upd H p (.tup xs)) := by
  obtain ⟨B, F, G, h⟩ := a
  obtain ⟨y', ys, F1, F2, e1, e2, e3, e4⟩ := id h.tm
  obtain ⟨rfl, rfl⟩ := List.cons.inj e1
  obtain ⟨G1, k1⟩ := h.pop1
  exact k1.newT hp (hr B e3.2)
/-- the state with the frozen heap in hand -/
theorem At.open1 {Z : Wd} {E : Ent} {Δ : List OT} {σ : L2.St} {vs : List V} {H : Hp} {d : D} {v : V} (a : DL.At Z E n Γ (.frz d :: Δ) σ (v :: vs) H) : ∃ B F G, AtB Z E n Γ Δ σ vs H B F G ∧ Rp Z.K B d v := by
  obtain ⟨B, F, G, h⟩ := a
  obtain ⟨y', ys, F1, F2, e1, e2, e3, e4⟩ := id h.tm
  obtain ⟨rfl, rfl⟩ := List.cons.inj e1
  obtain ⟨G1, k1⟩ := h.pop1
  exact ⟨B, F, G1, k1, e3.2⟩
theorem hf_listL {ds : List D} (k : K n Γ (.ol (ds.map .frz))) : HF S (.type "list") [.frz (.lst ds)] n Γ K := by
  intro Δ σ xs vs H Q hl a q
  obtain ⟨v, rfl⟩ := one_of hl
  obtain ⟨B, F, G, k1, p, ys, rfl, h2, h3⟩ := At.open1 a
  exact ⟨_, call_list_of, p, ys, rfl, .inl (.of (k1.evo.sub _ _ h2)), fun l hl => q n Γ _ _ _ k (k1.newL hl h3)⟩
theorem hf_listT {ds : List D} (k : K n Γ (.ol (ds.map .frz))) : HF S (.type "list") [.frz (.tup ds)] n Γ K := by
  intro Δ σ xs vs H Q hl a q
  obtain ⟨v, rfl⟩ := one_of hl
  obtain ⟨B, F, G, k1, p, ys, rfl, h2, h3⟩ := At.open1 a
  exact ⟨_, call_list_of, p, ys, rfl, .inr (ex_t k1.evo.sub h2), fun l hl => q n Γ _ _ _ k (k1.newL hl h3)⟩
theorem hf_tupL {ds : List D} (k : K n Γ (.frz (.tup ds))) : HF S (.type "tuple") [.frz (.lst ds)] n Γ K := by
  intro Δ σ xs vs H Q hl a q
  obtain ⟨v, rfl⟩ := one_of hl
  obtain ⟨B, F, G, k1, p, ys, rfl, h2, h3⟩ := At.open1 a
  exact ⟨_, call_tuple_of, p, ys, rfl, .inl ⟨.of (k1.evo.sub _ _ h2), fun l hl => q n Γ _ _ _ k (k1.newT hl h3)⟩⟩
theorem hf_tupT {ds : List D} (k : K n Γ (.frz (.tup ds))) : HF S (.type "tuple") [.frz (.tup ds)] n Γ K := by
  intro Δ σ xs vs H Q hl a q
  obtain ⟨v, rfl⟩ := one_of hl
  obtain ⟨B, F, G, k1, p, ys, rfl, h2, h3⟩ := At.open1 a
  exact ⟨_, call_tuple_of, p, ys, rfl, .inr ⟨ex_t k1.evo.sub h2, q n Γ _ _ _ k a⟩⟩
theorem hf_all {bs : List Bool} (hc : S.X.calm = true) (k : K n Γ (.frz (.bl (bs.all id)))) : HF S (.builtin "all") [.frz (.lst (bs.map .bl))] n Γ K := by
  intro Δ σ xs vs H Q hl a q
  obtain ⟨v, rfl⟩ := one_of hl
  obtain ⟨B, F, G, k1, p, ys, rfl, h2, h3⟩ := At.open1 a
  have e := RpL.bls_inv h3
  subst e
  exact ⟨_, cr_all hc, p, bs, rfl, .of (k1.evo.sub _ _ h2), q n Γ _ _ _ k ((At.pop a).flat fun _ => by exact rfl)⟩
theorem hf_any {bs : List Bool} (hc : S.X.calm = true) (k : K n Γ (.frz (.bl (bs.any id)))) : HF S (.builtin "any") [.frz (.lst (bs.map .bl))] n Γ K := by
  intro Δ σ xs vs H Q hl a q
  obtain ⟨v, rfl⟩ := one_of hl
  obtain ⟨B, F, G, k1, p, ys, rfl, h2, h3⟩ := At.open1 a
  have e := RpL.bls_inv h3
  subst e
  exact ⟨_, cr_any hc, p, bs, rfl, .of (k1.evo.sub _ _ h2), q n Γ _ _ _ k ((At.pop a).flat fun _ => by exact rfl)⟩
theorem hf_sortS {zs : List Str} (h : zs.length < 64) (k : ∀ ys : List Str, ys.Perm zs → sortedS ys = true → K n Γ (.ol ((ys.map D.str).map .frz))) : HF S (.builtin "sorted") [.frz (.lst (zs.map .str))] n Γ K := by
  intro Δ σ xs vs H Q hl a q
  obtain ⟨v, rfl⟩ := one_of hl
  obtain ⟨B, F, G, k1, p, ys, rfl, h2, h3⟩ := At.open1 a
  have e := RpL.strs_inv h3
  subst e
  exact ⟨_, cr_sortedS, p, zs, rfl, .of (k1.evo.sub _ _ h2), h, fun ys l hp hs hl => q n Γ _ _ _ (k ys hp hs) (k1.newL hl (RpL.strs ys))⟩
theorem hf_sortI {zs : List Int} (k : ∀ ys : List Int, ys.Perm zs → ys.Pairwise (· ≤ ·) → K n Γ (.ol ((ys.map D.int).map .frz))) : HF S (.builtin "sorted") [.frz (.lst (zs.map .int))] n Γ K := by
  intro Δ σ xs vs H Q hl a q
  obtain ⟨v, rfl⟩ := one_of hl
  obtain ⟨B, F, G, k1, p, ys, rfl, h2, h3⟩ := At.open1 a
  have e := RpL.ints_inv h3
  subst e
  exact ⟨_, cr_sortedI, p, zs, rfl, .of (k1.evo.sub _ _ h2), fun ys l hp hs hl => q n Γ _ _ _ (k ys hp hs) (k1.newL hl (RpL.ints ys))⟩
theorem hf_int {i : Int} (k : K n Γ (.frz (.int i))) : HF S (.type "int") [.frz (.int i)] n Γ K := by
  intro Δ σ xs vs H Q hl a q
  obtain ⟨v, B, rfl, h1, h2, a2⟩ := At.val1 hl a
  have h2 : v = .int i := h2
  subst h2
  exact ⟨_, call_int1, .inl ⟨i, rfl, q n Γ _ _ H k (a2.flat fun _ => by exact rfl)⟩⟩
theorem hf_intB {b : Bool} (k : K n Γ (.frz (.int (if b then 1 else 0)))) : HF S (.type "int") [.frz (.bl b)] n Γ K := by
  intro Δ σ xs vs H Q hl a q
  obtain ⟨v, B, rfl, h1, h2, a2⟩ := At.val1 hl a
  have h2 : v = .bl b := h2
  subst h2
  exact ⟨_, call_int1, .inr ⟨b, rfl, q n Γ _ _ H k (a2.flat fun _ => by exact rfl)⟩⟩
theorem hf_strI {i : Int} (hi : i.natAbs.log2 < 1920) (k : K n Γ (.frz (.str (toString i)))) : HF S (.type "str") [.frz (.int i)] n Γ K := by
  intro Δ σ xs vs H Q hl a q
  obtain ⟨v, B, rfl, h1, h2, a2⟩ := At.val1 hl a
  have h2 : v = .int i := h2
  subst h2
  exact ⟨_, call_str_int, i, rfl, hi, q n Γ _ _ H k (a2.flat fun _ => by exact rfl)⟩
theorem hf_strS {x : Str} (k : K n Γ (.frz (.str x))) : HF S (.type "str") [.frz (.str x)] n Γ K := by
  intro Δ σ xs vs H Q hl a q
  obtain ⟨v, B, rfl, h1, h2, a2⟩ := At.val1 hl a
  have h2 : v = .str x := h2
  subst h2
  exact ⟨_, SkE.call_str_str, x, rfl, q n Γ _ _ H k (a2.flat fun _ => by exact rfl)⟩

/-! ### methods of texts -/
def cM (X : Cx) (id : String) : V → List V → Hp → VK → Prop := fun x xs H Q => ∃ r, MtR X id r ∧ r x xs H Q
theorem mt_c {X : Cx} {id : String} : MtR X id (cM X id) := fun pins s σ H x xs v us Q I rx rs ⟨r, hr, h⟩ => hr pins s σ H x xs v us Q I rx rs h
def HM1 (S : Sit) (id : String) (x y : OT) (n : Nat) (Γ : Slots) (K : Nat → Slots → OT → Prop) : Prop :=
  ∀ Δ σ v w vs H Q, S.At n Γ (y :: x :: Δ) σ (w :: v :: vs) H → (∀ n' Γ' z u H2, K n' Γ' z → S.At n' Γ' (z :: Δ) σ (u :: vs) H2 → Q u H2) → cM S.X id v [w] H Q
theorem he_m1 {o e : Expr} {id : String} {name : Str} {apos : Pos} (slot : Slot "str" name id) (ty : typeOf (.builtin id) = pure (.type "method_descriptor"))
    (h : HE S o n Γ fun n1 Γ1 x => ∃ a, x = .frz (.str a) ∧ HE S e n1 Γ1 fun n2 Γ2 y => HM1 S id (.frz (.str a)) (.frz y.d) n2 Γ2 K)
    (hs : starEach [e] S.X.env = [(false, eval e S.X.env)] := by rfl) (hbase : attributeBase o name S.X.env (eval o S.X.env) = eval o S.X.env := by rfl) (hline : (apos.endLine == pos.line) = true := by rfl) : HE S (.Call (.Attribute o name apos) [e] [] pos) n Γ K := by
  intro Δ σ vs H Q at0 q
  refine ⟨_, pe_m1 slot ty mt_c pe_c pe_c hs hbase hline, h Δ σ vs H _ at0 fun n1 Γ1 x v H1 ⟨a, ex, he⟩ a1 => ?_⟩
  subst ex
  obtain ⟨B, _, e0⟩ := At.val a1
  exact ⟨⟨a, e0⟩, he _ σ _ H1 _ a1 fun n2 Γ2 y w H2 hm a2 => hm Δ σ v w vs H2 Q (At.frz1 a2) q⟩
/-- a method of two frozen things that gives a flat one -/
theorem hm_flat {id : String} {d e z : D} {u : V} (r : ∀ (B H : Hp) (v w : V) (Q : VK), Ex B H → Rp S.X.K B d v → Rp S.X.K B e w → Q u H → cM S.X id v [w] H Q) (hz : ∀ B, Rp S.X.K B z u) (k : K n Γ (.frz z)) : HM1 S id (.frz d) (.frz e) n Γ K := by
  intro Δ σ v w vs H Q at0 q
  obtain ⟨B, F, G, h⟩ := at0
  obtain ⟨h1, h2⟩ := h.tm2
  exact r B H v w Q h.evo.sub h1 h2 (q n Γ _ u H k (At.two ⟨B, F, G, h⟩ hz))
theorem m_join {a : Str} {ys : List Str} {e : D} (he : e = .lst (ys.map .str)) (hz : (ys.map (·.length)).sum + ys.length * a.length ≤ 16777216) (k : K n Γ (.frz (.str (Txt.join a ys)))) : HM1 S "str.join" (.frz (.str a)) (.frz e) n Γ K :=
  hm_flat (u := .str (Txt.join a ys)) (fun B H v w Q eB h1 h2 q => by
    subst he
    obtain ⟨p, xs, rfl, h3, h4⟩ := h2
    have e := RpL.strs_inv h4
    subst e
    exact ⟨_, mt_join, a, p, ys, h1, rfl, .inl (.of (eB _ _ h3)), hz, q⟩) (fun _ => by exact rfl) k
theorem m_starts {a b : Str} (k : K n Γ (.frz (.bl (Txt.startswith a b)))) : HM1 S "str.startswith" (.frz (.str a)) (.frz (.str b)) n Γ K :=
  hm_flat (u := .bl (Txt.startswith a b)) (fun B H v w Q eB h1 h2 q => by cases h1; cases h2; exact ⟨_, mt_startswith, a, b, rfl, rfl, q⟩) (fun _ => by exact rfl) k
theorem m_ends {a b : Str} (k : K n Γ (.frz (.bl (Txt.endswith a b)))) : HM1 S "str.endswith" (.frz (.str a)) (.frz (.str b)) n Γ K :=
  hm_flat (u := .bl (Txt.endswith a b)) (fun B H v w Q eB h1 h2 q => by cases h1; cases h2; exact ⟨_, mt_endswith, a, b, rfl, rfl, q⟩) (fun _ => by exact rfl) k
theorem m_find {a b : Str} (k : K n Γ (.frz (.int (Txt.find a b)))) : HM1 S "str.find" (.frz (.str a)) (.frz (.str b)) n Γ K :=
  hm_flat (u := .int (Txt.find a b)) (fun B H v w Q eB h1 h2 q => by cases h1; cases h2; exact ⟨_, mt_find, a, b, rfl, rfl, q⟩) (fun _ => by exact rfl) k
/-- o.join(e) -/
theorem he_join {o e : Expr} {apos : Pos} (h : HE S o n Γ fun n1 Γ1 x => ∃ a, x = .frz (.str a) ∧ HE S e n1 Γ1 fun n2 Γ2 y => ∃ ys : List Str, y.d = .lst (ys.map .str) ∧ (ys.map (·.length)).sum + ys.length * a.length ≤ 16777216 ∧ K n2 Γ2 (.frz (.str (Txt.join a ys))))
    (hs : starEach [e] S.X.env = [(false, eval e S.X.env)] := by rfl) (hbase : attributeBase o "join" S.X.env (eval o S.X.env) = eval o S.X.env := by rfl) (hline : (apos.endLine == pos.line) = true := by rfl) : HE S (.Call (.Attribute o "join" apos) [e] [] pos) n Γ K :=
  he_m1 F.slot_str_join F.type_str_join (h.mono fun n1 Γ1 x ⟨a, h1, h2⟩ => ⟨a, h1, h2.mono fun n2 Γ2 y ⟨ys, h3, h4, h5⟩ => m_join h3 h4 h5⟩) hs hbase hline

/-! ### operators on lists and texts -/
theorem o_catL {ds es : List D} (hz : ds.length + es.length ≤ 100000) (k : K n Γ (.ol ((ds ++ es).map .frz))) : HO2 S (cB S.X .Add) n Γ (.frz (.lst ds)) (.frz (.lst es)) K := by
  intro Δ σ v w vs H Q at0 q
  obtain ⟨B, F, G, h⟩ := id at0
  obtain ⟨⟨a, xs, rfl, h1, h2⟩, b, ys, rfl, h3, h4⟩ := h.tm2
  obtain ⟨G1, k1⟩ := h.pop1
  obtain ⟨G2, k2⟩ := k1.pop1
  exact ⟨_, op_cat, a, b, xs, ys, rfl, rfl, h.evo.sub _ _ h1, h.evo.sub _ _ h3, sz_of (by rw [h2.len, h4.len]; exact hz), fun p hp => q n Γ _ _ _ k (k2.newL hp (h2.append h4))⟩
theorem o_catT {ds es : List D} (hz : ds.length + es.length ≤ 100000) (k : K n Γ (.frz (.tup (ds ++ es)))) : HO2 S (cB S.X .Add) n Γ (.frz (.tup ds)) (.frz (.tup es)) K := by
  intro Δ σ v w vs H Q at0 q
  obtain ⟨B, F, G, h⟩ := id at0
  obtain ⟨⟨a, xs, rfl, h1, h2⟩, b, ys, rfl, h3, h4⟩ := h.tm2
  obtain ⟨G1, k1⟩ := h.pop1
  obtain ⟨G2, k2⟩ := k1.pop1
  refine ⟨_, op_catA, a, b, xs, ys, rfl, rfl, ex_t h.evo.sub h1, ex_t h.evo.sub h3, sz_of (by rw [h2.len, h4.len]; exact hz), fun e => q n Γ _ _ _ k ⟨B, F, G2, ?_⟩, fun e e' => q n Γ _ _ _ k ⟨B, F, G2, ?_⟩, fun e e' p hp => q n Γ _ _ _ k (k2.newT hp (h2.append h4))⟩
  · have := h2.len
    rw [e] at this
    have e0 : ds = [] := List.length_eq_zero_iff.mp this.symm
    subst e0
    exact k2.pushV ⟨b, ys, rfl, h3, h4⟩
  · have := h4.len
    rw [e'] at this
    have e0 : es = [] := List.length_eq_zero_iff.mp this.symm
    subst e0
    rw [List.append_nil]
    exact k2.pushV ⟨a, xs, rfl, h1, h2⟩
theorem rep_rp {KK : PySem.W.Frag} {B : Hp} {ds : List D} {xs : List V} (h : RpL KK B ds xs) : ∀ m : Nat, RpL KK B (List.replicate m ds).flatten (List.replicate m xs).flatten
  | 0 => rfl
  | m + 1 => by
    rw [List.replicate_succ, List.replicate_succ, List.flatten_cons, List.flatten_cons]
    exact h.append (rep_rp h m)
theorem o_repL {ds : List D} {i : Int} (h0 : 0 ≤ i) (h1 : i ≤ 100000) (hz : ds.length * i.toNat ≤ 100000) (k : K n Γ (.ol ((List.replicate i.toNat ds).flatten.map .frz))) : HO2 S (cB S.X .Mult) n Γ (.frz (.lst ds)) (.frz (.int i)) K := by
  intro Δ σ v w vs H Q at0 q
  obtain ⟨B, F, G, h⟩ := id at0
  obtain ⟨⟨a, xs, rfl, e1, e2⟩, e3⟩ := h.tm2
  have e3 : w = .int i := e3
  subst e3
  obtain ⟨G1, k1⟩ := h.pop1
  obtain ⟨G2, k2⟩ := k1.pop1
  exact ⟨_, op_rep, a, i, xs, rfl, rfl, h.evo.sub _ _ e1, by omega, by omega, sz_of (by rw [e2.len]; exact hz), fun p hp => q n Γ _ _ _ k (k2.newL hp (rep_rp e2 i.toNat))⟩
/-- a text times a small number -/
def strRep (x : Str) (n : Nat) : Str := ⟨(List.replicate n x.cps.toList).flatten.toArray⟩
theorem foldl_cps (a : Array Nat) : ∀ (m : Nat) (acc : Array Nat), (List.replicate m a).foldl (· ++ ·) acc = acc ++ (List.replicate m a.toList).flatten.toArray
  | 0, acc => by simp
  | m + 1, acc => by
    rw [List.replicate_succ, List.foldl_cons, foldl_cps a m, List.replicate_succ, List.flatten_cons]
    apply Array.ext'
    simp
def rMulS : R2 := fun x y H Q => ∃ (z : Str) (i : Int), x = .str z ∧ y = .int i ∧ 0 ≤ i ∧ i ≤ 100000 ∧ z.length ≤ 100000 ∧ z.length * i.toNat ≤ 100000 ∧ Q (.str (strRep z i.toNat)) H
theorem strRep_zero {z : Str} : strRep z 0 = Str.empty := rfl
theorem strRep_one {z : Str} : strRep z 1 = z := by
  unfold strRep
  simp
theorem flatten_nils {α : Type} : ∀ m : Nat, (List.replicate m ([] : List α)).flatten = []
  | 0 => rfl
  | m + 1 => by rw [List.replicate_succ, List.flatten_cons, flatten_nils m]; rfl
theorem strRep_empty {z : Str} {m : Nat} (h : z.length = 0) : strRep z m = z := by
  have e : z.cps = #[] := Array.eq_empty_of_size_eq_zero h
  unfold strRep
  cases z with
  | mk c =>
    have e : c = #[] := e
    subst e
    rw [show (⟨#[]⟩ : Str).cps.toList = [] from rfl, flatten_nils]
theorem strRep_len {z : Str} {m : Nat} : (strRep z m).length = z.length * m := by
  unfold strRep Str.length
  rw [List.size_toArray]
  induction m with
  | zero => simp
  | succ m ih => rw [List.replicate_succ, List.flatten_cons, List.length_append, ih, Array.length_toList, Nat.mul_succ, Nat.add_comm]
theorem op_mulS {X : Cx} : OpR X (binaryOp .Mult) rMulS := by
  intro pins s σ H x y v u Q I rx ry ⟨z, i, ex, ey, h0, h1, h2, h3, q⟩
  subst ex ey
  obtain ⟨t, rfl⟩ := rx
  obtain ⟨t', rfl⟩ := ry
  refine PySem.P.mul_str ?_ (fun _ _ => ?_) (fun _ _ => ?_) ?_
  · rw [decide_eq_false (by omega : ¬ i < -(2 ^ 63 : Int)), decide_eq_false (by omega : ¬ i ≥ 2 ^ 63)]; rfl
  · have hi : 0 < i ∨ i = 0 := by omega
    rcases hi with hi | hi
    · have hd : (z.length : Int) ≤ (2 ^ 63 - 1) / i := by
        rw [Int.le_ediv_iff_mul_le hi]
        have e1 : (z.length : Int) * i ≤ 100000 * 100000 := by
          have a1 : (z.length : Int) ≤ 100000 := by omega
          exact Int.le_trans (Int.mul_le_mul_of_nonneg_right a1 h0) (Int.mul_le_mul_of_nonneg_left h1 (by omega))
        omega
      omega
    · omega
  · show decide (z.length * i.toNat > sizeLine) = false
    rw [sizeLine_eq]
    exact decide_eq_false (by omega)
  · by_cases hn : i < 1
    · have hi : i = 0 := by omega
      subst hi
      rw [if_pos (by omega)]
      exact ⟨by decide, .str Str.empty, H, I.tok _, ⟨_, rfl⟩, q⟩
    · rw [if_neg hn]
      by_cases hb : (i == 1 || z.length == 0) = true
      · rw [if_pos hb]
        refine ⟨.str z, H, I, ⟨_, rfl⟩, ?_⟩
        rw [Bool.or_eq_true, beq_iff_eq, beq_iff_eq] at hb
        have e : strRep z i.toNat = z := by
          rcases hb with hb | hb
          · subst hb
            exact strRep_one
          · exact strRep_empty hb
        rw [e] at q
        exact q
      · rw [if_neg hb]
        have e : (⟨(List.replicate i.toNat z.cps).foldl (· ++ ·) #[]⟩ : Str) = strRep z i.toNat := by
          rw [foldl_cps]
          unfold strRep
          simp
        rw [e]
        refine ⟨by rw [strRep_len, sizeLine_eq]; omega, .str _, H, I.tok _, ⟨_, rfl⟩, q⟩
theorem o_mulS {x : Str} {i : Int} (h0 : 0 ≤ i) (h1 : i ≤ 100000) (h2 : x.length ≤ 100000) (h3 : x.length * i.toNat ≤ 100000) (k : K n Γ (.frz (.str (strRep x i.toNat)))) : HO2 S (cB S.X .Mult) n Γ (.frz (.str x)) (.frz (.int i)) K :=
  ho_flat (u := .str (strRep x i.toNat)) (fun B H v w Q _ e1 e2 q => by cases e1; cases e2; exact ⟨_, op_mulS, x, i, rfl, rfl, h0, h1, h2, h3, q⟩) (fun _ => by exact rfl) k

/-! ### methods of owned lists -/
theorem RpL.erase {KK : PySem.W.Frag} {B : Hp} : ∀ {ds : List D} {xs : List V} (k : Nat), RpL KK B ds xs → RpL KK B (ds.eraseIdx k) (xs.eraseIdx k)
  | [], _, k, h => by rw [show _ = ([] : List V) from h]; exact rfl
  | d :: ds, _, 0, ⟨y, ys, e1, e2, e3⟩ => by subst e1; exact e3
  | d :: ds, _, k + 1, ⟨y, ys, e1, e2, e3⟩ => by subst e1; exact ⟨y, _, rfl, e2, RpL.erase k e3⟩
section
variable {cpos apos : Pos}
theorem AtB.popFrz {Z : Wd} {E : Ent} {Δ : List OT} {σ : L2.St} {vs : List V} {H B : Hp} {F G : List Addr} {t : OT} {v : V} (h : AtB Z E n Γ (t :: Δ) σ (v :: vs) H B F G) : ∃ G', AtB Z E n Γ Δ σ vs H B F G' := h.pop1
/-- x.extend(e), x an owned list's name; e a new list -/
theorem he_extend (i : Nat) {x : Str} {e : Expr} {ts0 : List OT} (h0 : Γ[i]? = some (some (.ol ts0)))
    (h : HE S e n Γ fun n1 Γ1 r => ∃ ts us, (r = .ol us ∨ ∃ ds, r = .frz (.lst ds) ∧ us = ds.map .frz) ∧ Γ1[i]? = some (some (.ol ts)) ∧ ts.length + us.length ≤ 100000 ∧ K n1 (Γ1.set i (some (.ol (ts ++ us)))) (.frz .non))
    (hN : S.X.N[i]? = some x) (hv : Vis S.X.env.scope x) (hd : (x == ("__debug__" : Str)) = false := by decide) (hcd : (x == ("__classdict__" : Str)) = false := by decide)
    (hbase : attributeBase (.Name x p) "extend" S.X.env (eval (.Name x p) S.X.env) = eval (.Name x p) S.X.env := by rfl)
    (hfew : ((backTo cpos (starEach (e :: []) S.X.env)).all (fun x => !x.1) && (backToKw cpos (keywordEach [] S.X.env)).all (fun x => x.1.isSome)
      && decide ((e :: []).length + ([] : List Keyword).length + (if ([] : List Keyword).isEmpty then 0 else 1) < 30)) = true := by rfl)
    (hline : (apos.endLine == cpos.line) = true := by rfl) (hs : starEach (e :: []) S.X.env = (false, eval e S.X.env) :: starEach [] S.X.env := by rfl) (hplain : (backTo cpos (starEach [] S.X.env)).any (·.1) = false := by rfl) :
    HE S (.Call (.Attribute (.Name x p) "extend" apos) [e] [] cpos) n Γ K := by
  intro Δ σ vs H Q at0 q
  refine ⟨_, pe_bm PySem.F.plainAttrs_list PySem.F.slot_list_extend PySem.F.type_list_extend mt_extend (pe_var hN hv hd hcd) (pa_cons pe_c pa_nil hs) hbase hfew hline hs hplain, ?_⟩
  obtain ⟨B, F, G, a0⟩ := id at0
  obtain ⟨v, F1, F2, F3, h1, h2, ⟨a, ys, G1, rfl, e2, e3, e4⟩, _⟩ := a0.sl.at h0
  refine ⟨_, h1, .inl ⟨rfl, ys, .of e3⟩, h Δ σ vs H _ at0 fun n1 Γ1 r y H1 ⟨ts, us, hr, hΓ, hz, hk⟩ a1 => ?_⟩
  obtain ⟨B1, F1', G1', a1⟩ := a1
  obtain ⟨b, zs, G4, Gr, k1, k2, k3, k4, k5, k6, k7⟩ := AtB.mutL (rs := [r]) (xs := [y]) a1 rfl hΓ
  obtain rfl : a = b := V.ref.inj (Option.some.inj (Option.some.inj (h1.symm.trans k1)))
  obtain ⟨y', ys', F5, F6, p1, p2, p3, p4⟩ := k4
  obtain ⟨rfl, rfl⟩ := List.cons.inj p1
  obtain ⟨c, ws, Gw, hy, hc, hw, hcw⟩ : ∃ c ws Gw, y = .ref c ∧ H1 c = some (.lst ws) ∧ RpOs S.Z.K H1 B1 us ws Gw ∧ ∀ b, Gw.count b ≤ F5.count b := by
    rcases hr with hr | ⟨ds, hr, hu⟩
    · subst hr
      obtain ⟨c, ws, Gw, z1, z2, z3, z4⟩ := p3
      exact ⟨c, ws, Gw, z1, z3, z4, fun b => by rw [z2, List.count_cons]; omega⟩
    · subst hr hu
      obtain ⟨z0, c, ws, z1, z2, z3⟩ := p3
      exact ⟨c, ws, [], z1, a1.evo.sub _ _ z2, RpOs.frzs z3, fun b => by simp⟩
  subst hy
  refine ⟨a, c, zs, ws, rfl, rfl, k2, hc, sz_of (by rw [k3.len, hw.len]; exact hz), ?_⟩
  obtain ⟨F9, G9, a9⟩ := k7 (ts ++ us) (zs ++ ws) (G4 ++ Gw) (RpOs.app k3 hw) (fun b => by rw [List.count_append, p2, List.count_append]; have := hcw b; omega)
  exact q n1 _ _ .non _ hk (At.flat ⟨_, _, _, a9⟩ fun _ => rfl)
/-- x.pop(e), x an owned list of frozen things -/
theorem he_popAt (i : Nat) {x : Str} {e : Expr} {ts0 : List OT} (h0 : Γ[i]? = some (some (.ol ts0)))
    (h : HE S e n Γ fun n1 Γ1 r => ∃ (ds : List D) (k : Nat) (d : D), r = .frz (.int (k : Int)) ∧ Γ1[i]? = some (some (.ol (ds.map .frz))) ∧ ds[k]? = some d ∧ ds.length ≤ 100000 ∧ K n1 (Γ1.set i (some (.ol ((ds.eraseIdx k).map .frz)))) (.frz d))
    (hN : S.X.N[i]? = some x) (hv : Vis S.X.env.scope x) (hd : (x == ("__debug__" : Str)) = false := by decide) (hcd : (x == ("__classdict__" : Str)) = false := by decide)
    (hbase : attributeBase (.Name x p) "pop" S.X.env (eval (.Name x p) S.X.env) = eval (.Name x p) S.X.env := by rfl)
    (hfew : ((backTo cpos (starEach (e :: []) S.X.env)).all (fun x => !x.1) && (backToKw cpos (keywordEach [] S.X.env)).all (fun x => x.1.isSome)
      && decide ((e :: []).length + ([] : List Keyword).length + (if ([] : List Keyword).isEmpty then 0 else 1) < 30)) = true := by rfl)
    (hline : (apos.endLine == cpos.line) = true := by rfl) (hs : starEach (e :: []) S.X.env = (false, eval e S.X.env) :: starEach [] S.X.env := by rfl) (hplain : (backTo cpos (starEach [] S.X.env)).any (·.1) = false := by rfl) :
    HE S (.Call (.Attribute (.Name x p) "pop" apos) [e] [] cpos) n Γ K := by
  intro Δ σ vs H Q at0 q
  refine ⟨_, pe_bm PySem.F.plainAttrs_list PySem.F.slot_list_pop PySem.F.type_list_pop mt_popAt (pe_var hN hv hd hcd) (pa_cons pe_c pa_nil hs) hbase hfew hline hs hplain, ?_⟩
  obtain ⟨B, F, G, a0⟩ := id at0
  obtain ⟨v, F1, F2, F3, h1, h2, ⟨a, ys, G1, rfl, e2, e3, e4⟩, _⟩ := a0.sl.at h0
  refine ⟨_, h1, .inl ⟨rfl, ys, .of e3⟩, h Δ σ vs H _ at0 fun n1 Γ1 r y H1 ⟨ds, k, d, hr, hΓ, hd, hz, hk⟩ a1 => ?_⟩
  subst hr
  obtain ⟨B0, _, ey⟩ := At.val a1
  have ey : y = .int (k : Int) := ey
  subst ey
  obtain ⟨B1, F1', G1', a1⟩ := a1
  obtain ⟨b, zs, G4, Gr, k1, k2, k3, k4, k5, k6, k7⟩ := AtB.mutL (rs := [.frz (.int (k : Int))]) (xs := [.int (k : Int)]) a1 rfl hΓ
  obtain rfl : a = b := V.ref.inj (Option.some.inj (Option.some.inj (h1.symm.trans k1)))
  obtain ⟨g0, rl⟩ := RpOs.frzs_inv k3
  obtain ⟨w, hw, rw'⟩ := rl.get hd
  have hlt : k < ds.length := (List.getElem?_eq_some_iff.mp hd).1
  obtain ⟨F9, G9, a9⟩ := k7 ((ds.eraseIdx k).map .frz) (zs.eraseIdx k) [] (RpOs.frzs (rl.erase k)) (fun b => by simp)
  refine ⟨a, zs, k, k, w, rfl, rfl, k2, by omega, Int.lt_of_lt_of_le (Int.ofNat_lt.mpr (Nat.lt_of_lt_of_le hlt hz)) (by decide), ?_, hw, q n1 _ _ w _ hk ⟨_, F9, G9, a9.pushV rw'⟩⟩
  rw [rl.len]
  unfold seqIndex?
  have e1 : ¬ ((k : Int) < 0) := by omega
  rw [if_neg e1]
  show (if (decide (0 ≤ (k : Int)) && decide ((k : Int) < (ds.length : Int))) = true then some (k : Int).toNat else none) = some k
  rw [decide_eq_true (by omega), decide_eq_true (Int.ofNat_lt.mpr hlt)]
  rfl
end
end
end DL

set_option Elab.async false
set_option linter.all false
set_option maxRecDepth 100000
set_option maxHeartbeats 4000000
/-! DLK: defs and calls, made short. -/
namespace DL
open PySem PySem.Spec PyProof.Rows L2 Evl

/-! ### names of the ground -/
theorem b_len : bootBuiltins "len" = some (.builtin "len") := by decide +kernel
theorem b_isinstance : bootBuiltins "isinstance" = some (.builtin "isinstance") := by decide +kernel
theorem b_sorted : bootBuiltins "sorted" = some (.builtin "sorted") := by decide +kernel
theorem b_all : bootBuiltins "all" = some (.builtin "all") := by decide +kernel
theorem b_any : bootBuiltins "any" = some (.builtin "any") := by decide +kernel
theorem b_sum : bootBuiltins "sum" = some (.builtin "sum") := by decide +kernel
theorem b_min : bootBuiltins "min" = some (.builtin "min") := by decide +kernel
theorem b_max : bootBuiltins "max" = some (.builtin "max") := by decide +kernel
theorem b_repr : bootBuiltins "repr" = some (.builtin "repr") := by decide +kernel
theorem b_list : bootBuiltins "list" = some (.type "list") := by decide +kernel
theorem b_tuple : bootBuiltins "tuple" = some (.type "tuple") := by decide +kernel
theorem b_dict : bootBuiltins "dict" = some (.type "dict") := by decide +kernel
theorem b_int : bootBuiltins "int" = some (.type "int") := by decide +kernel
theorem b_str : bootBuiltins "str" = some (.type "str") := by decide +kernel
theorem b_bool : bootBuiltins "bool" = some (.type "bool") := by decide +kernel
theorem b_range : bootBuiltins "range" = some (.type "range") := by decide +kernel
theorem b_zip : bootBuiltins "zip" = some (.type "zip") := by decide +kernel
theorem b_enumerate : bootBuiltins "enumerate" = some (.type "enumerate") := by decide +kernel
section
variable (P : Program) (w : World) (K : PySem.W.Frag) (mg : Str → Option Value) (base : Heap) (N : List Str) (qual : Str) (scope : Scope) (f : Addr) (st cs : Addr) (T : List (Addr × Str)) (as : List OT)
/-- all that a body's run leaves open -/
structure Bp where
  cdv : Value
  A : Around
  outer : List Env
  s : Shared
  H : Hp
  B : Hp
  M : List Addr
  vs : List V
  lv : vs.length = as.length
  EX : XK
  W : WX
  XP : XPost
  tk : Takes (bodyX P w K mg base N qual scope f cdv A outer s H EX) W
  xo : XOk ⟨(bodyX P w K mg base N qual scope f cdv A outer s H EX).K, st, cs, T⟩ ⟨H, B, M, pinsOf as vs⟩ XP W
  po : PassesOwn (model (bodyX P w K mg base N qual scope f cdv A outer s H EX).prog (bodyX P w K mg base N qual scope f cdv A outer s H EX).w) (bodyX P w K mg base N qual scope f cdv A outer s H EX).A (bodyX P w K mg base N qual scope f cdv A outer s H EX).env (bodyX P w K mg base N qual scope f cdv A outer s H EX).xe
end
section
variable {P : Program} {w : World} {K : PySem.W.Frag} {mg : Str → Option Value} {base : Heap} {N ps : List Str} {qual x : Str} {scope : Scope} {f : Addr} {st cs : Addr} {T : List (Addr × Str)} {as : List OT}
abbrev Bp.S (b : Bp P w K mg base N qual scope f st cs T as) : Sit := Sit.mk (bodyX P w K mg base N qual scope f b.cdv b.A b.outer b.s b.H b.EX) st cs T ⟨b.H, b.B, b.M, pinsOf as b.vs⟩ b.W b.XP b.tk b.xo b.po
def Def1 (K : PySem.W.Frag) (mg : Str → Option Value) (x : Str) (s : Stmt) : Prop := ∃ f fd, mg x = some (.ref f) ∧ FunD K x x (defArgs s) (defBody s) (defScope s) [] [] f fd
/-- the def of x keeps sp -/
theorem fn_okF {s : Stmt} {k : Nat} {sp : FSpec} (d : Def1 K mg x s) (Sc : FnScope N ps (defScope s))
    (hb : ∀ f (as : List OT) (b : Bp P w K mg base N x (defScope s) f st cs T as) (n : Nat) (KP : Nat → List OT → OT → Prop) (XP0 : Nat → Addr → List Str → List D → Prop), Room k b.S.X.A → as.length = ps.length → sp as n KP XP0 →
      (∀ n Γ C ns ds, XP0 n C ns ds → b.S.XP n Γ C ns ds) →
      HSs b.S (defBody s) n (as.map some ++ List.replicate (N.length - ps.length) none)
        { nx := fun n' Γ' => ∃ outs, OutsOk as Γ' outs ∧ KP n' outs (.frz .non), rt := fun n' Γ' r => ∃ outs, OutsOk as Γ' outs ∧ KP n' outs r })
    (hbind : ∀ (kV doc pm : Value) (an : Option Addr) (cdv ct : Value) (us : List Value), us.length = ps.length → bindArgs (PySem.W.fnOf x x (defArgs s) (defBody s) (defScope s) .none kV doc pm an cdv ct) ⟨us, []⟩ = pure (ps.zip us)) :
    OkF P w K mg base ⟨K, st, cs, T⟩ (k + 1) x ps sp := by
  obtain ⟨f, fd, h1, h2⟩ := d
  refine ⟨f, fd, h1, h2.kp, h2.bindsN hbind, fn_sp h2 Sc fun cdv A outer s' H B M vs EX W XP as n KP XP0 tk xo po hr hl hlv hsp hx => ?_⟩
  exact hb f as ⟨cdv, A, outer, s', H, B, M, vs, hlv, EX, W, XP, tk, xo, po⟩ n KP XP0 hr hl hsp hx
/-- of frozen things only -/
abbrev PSpec := List D → Nat → (Nat → OT → Prop) → (Nat → Addr → List Str → List D → Prop) → Prop
def pureSp (R : PSpec) : FSpec := fun as n KP XP => ∃ ds, as = ds.map .frz ∧ R ds n (fun n' r => KP n' as r) XP
theorem fn_pure {s : Stmt} {k : Nat} {R : PSpec} (d : Def1 K mg x s) (Sc : FnScope N ps (defScope s))
    (hb : ∀ f (ds : List D) (b : Bp P w K mg base N x (defScope s) f st cs T (ds.map .frz)) (n : Nat) (KP : Nat → OT → Prop) (XP0 : Nat → Addr → List Str → List D → Prop), Room k b.S.X.A → ds.length = ps.length → R ds n KP XP0 →
      (∀ n Γ C ns ds, XP0 n C ns ds → b.S.XP n Γ C ns ds) →
      HSs b.S (defBody s) n ((ds.map .frz).map some ++ List.replicate (N.length - ps.length) none) { nx := fun n' _ => KP n' (.frz .non), rt := fun n' _ r => KP n' r })
    (hbind : ∀ (kV doc pm : Value) (an : Option Addr) (cdv ct : Value) (us : List Value), us.length = ps.length → bindArgs (PySem.W.fnOf x x (defArgs s) (defBody s) (defScope s) .none kV doc pm an cdv ct) ⟨us, []⟩ = pure (ps.zip us)) :
    OkF P w K mg base ⟨K, st, cs, T⟩ (k + 1) x ps (pureSp R) := by
  refine fn_okF d Sc (fun f as b n KP XP0 hr hl hsp hx => ?_) hbind
  obtain ⟨ds, rfl, hR⟩ := hsp
  have h := hb f ds b n _ XP0 hr (by rw [← hl, List.length_map]) hR hx
  exact fun Δ σ vs H D a m => h Δ σ vs H D a ⟨fun n' Γ' σ' H' hk a' => m.nx n' Γ' σ' H' ⟨_, outs_frz ds Γ', hk⟩ a', fun n' Γ' r σ' v H' hk a' => m.rt n' Γ' r σ' v H' ⟨_, outs_frz ds Γ', hk⟩ a', m.bk, m.ct⟩
end
theorem pinP : ∀ (ds : List D) (vs : List V) (i : Nat), (pinsOf (ds.map .frz) vs).getD i none = none
  | [], _, i => by simp [pinsOf]
  | d :: ds, vs, 0 => rfl
  | d :: ds, vs, i + 1 => by
    show (none :: pinsOf (ds.map .frz) vs.tail).getD (i + 1) none = none
    rw [List.getD_cons_succ]
    exact pinP ds vs.tail i
section
variable {S : Sit} {n : Nat} {Γ : Slots} {K : Nat → Slots → OT → Prop} {pos p : Pos}
/-- f(e, ..), f of frozen things -/
theorem he_callP {x : Str} {ps : List Str} {R : PSpec} {k : Nat} {e : Expr} {es : List Expr} (O : OkF S.X.prog S.X.w S.X.K S.X.mg S.X.base S.Z k x ps (pureSp R)) (hr : Room k S.X.A)
    (h : HA S (e :: es) n Γ fun n1 Γ1 rs => rs.length = ps.length ∧ R (rs.map OT.d) n1 (fun n' r => K n' Γ1 r) fun n' C ns ds => S.XP n' Γ1 C ns ds) (hg : Gl S.X x := by rfl)
    (hdb : (x == ("__debug__" : Str)) = false := by decide) (he : starEach (e :: es) S.X.env = (false, eval e S.X.env) :: starEach es S.X.env := by rfl) (hpl : (backTo pos (starEach es S.X.env)).any (·.1) = false := by rfl) :
    HE S (.Call (.Name x p) (e :: es) [] pos) n Γ K :=
  he_call O hr (fun Δ σ vs H Q a q => h Δ σ vs H Q a fun n1 Γ1 rs xs H1 ⟨h1, h2⟩ => q n1 Γ1 rs xs H1 ⟨h1, rs.map OT.d, by rw [List.map_map]; rfl, h2⟩) hg hdb he hpl
end
section
variable {Z : Wd} {E : Ent} {n m : Nat} {Γ : Slots} {Δ rs : List OT} {σ : L2.St} {vs xs : List V} {H B H2 B2 : Hp} {F G G1 G2 G3 : List Addr}
theorem AtB.pushOs {ts : List OT} {ys : List V} (h : AtB Z E n Γ Δ σ vs H B F G) (hr : RpOs Z.K H B ts ys G3) (nd : ∀ a, G3.count a ≤ 1) (hc : ∀ a, 0 < G3.count a → B a = none ∧ (E.H a = none ∨ a ∈ E.M) ∧ a ≠ Z.st ∧ a ≠ Z.cs ∧ F.count a = 0 ∧ G.count a = 0) :
    AtB Z E n Γ (ts ++ Δ) σ (ys ++ vs) H B F (G3 ++ G) := by
  refine ⟨h.evo, h.sl, RpOs.app hr h.tm, fun a => ?_, fun a ha => ?_, h.str, h.bst, h.tab, h.pin⟩
  · rw [List.count_append]
    have := nd a
    have := h.nd a
    by_cases q : 0 < G3.count a
    · have := hc a q
      omega
    · omega
  · rw [List.count_append] at ha
    by_cases q : 0 < G3.count a
    · obtain ⟨q1, q2, q3, q4, _⟩ := hc a q
      exact ⟨q1, q2, q3, q4⟩
    · exact h.out a (by omega)
/-- the call, seen by the caller; what was handed over comes back -/
theorem AtB.callO (h : AtB Z E n Γ (rs ++ Δ) σ (xs ++ vs) H B F G) (hl : xs.length = rs.length) : ∃ G1, Ready Z n rs xs H B G1 ∧
    (∀ n' outs r v H2 B2 F2 G3, CallEnd Z H B G1 xs n' outs r v H2 B2 F2 G3 → DL.At Z E n' Γ ((r :: outs) ++ Δ) σ ((v :: xs) ++ vs) H2) ∧
    ∀ n' ns ds d H2 B2, ExcEnd Z H B G1 n' ns ds d H2 B2 → ∃ G', AtB Z E n' Γ Δ σ vs H2 B2 F G' ∧ ExD Z.K H2 B2 d ns ds := by
  obtain ⟨ys, zs, G1, G2, e1, e2, e3, e4, e5⟩ := h.tm.split
  obtain ⟨rfl, rfl⟩ := List.append_inj e1 (hl.trans e2.symm)
  have inG1 : ∀ a, 0 < G1.count a → 0 < F.count a + G.count a := fun a ha => by rw [e3, List.count_append]; omega
  have cnt : ∀ a, F.count a + (G1.count a + G2.count a) ≤ 1 := fun a => by
    have := h.nd a
    rw [e3, List.count_append] at this
    exact this
  refine ⟨G1, ⟨h.evo.sub, h.str, h.bst, h.tab, e4, fun a => by have := cnt a; omega, fun a ha => ?_⟩, fun n' outs r v H2 B2 F2 G3 c => ?_, fun n' ns ds d H2 B2 c => ?_⟩
  · obtain ⟨h1, _, h2, h3⟩ := h.out a (inG1 a ha)
    exact ⟨h1, h2, h3⟩
  · have k := h.over e3 e5 c.evo c.str c.bst c.tab
    have hro : RpOs Z.K H2 B2 (r :: outs) (v :: xs) (G3 ++ F2) := ⟨v, xs, G3, F2, rfl, rfl, c.rr, c.os⟩
    refine ⟨B2, F, (G3 ++ F2) ++ G2, k.pushOs hro (fun a => by have := c.nd a; rw [List.count_append]; omega) fun a ha => ?_⟩
    rw [List.count_append] at ha
    obtain ⟨q1, q2, q3, q4⟩ := c.out a (by omega)
    refine ⟨q1, ?_, q3, q4, ?_⟩
    · rcases q2 with y | y
      · exact h.fresh y
      · exact (h.out a (inG1 a (List.count_pos_iff.mpr y))).2.1
    · rcases q2 with y | y
      · have np : ¬ 0 < F.count a + G.count a := fun z => by
          obtain ⟨u, e, _⟩ := h.thereF z
          rw [y] at e; cases e
        rw [e3, List.count_append] at np
        omega
      · have := List.count_pos_iff.mpr y
        have := cnt a
        omega
  · exact ⟨G2, h.over e3 e5 c.evo c.str c.bst c.tab, c.ex⟩
/-- a temporary goes back into the slot that holds its value -/
theorem AtB.putBack {i : Nat} {t : OT} {v : V} (h : AtB Z E n Γ (t :: Δ) σ (v :: vs) H B F G) (hi : i < Γ.length) (hv : σ[i]? = some (some v)) : ∃ F' G', AtB Z E n (Γ.set i (some t)) Δ σ vs H B F' G' := by
  obtain ⟨y, ys, G1, G2, q1, q2, q3, q4⟩ := id h.tm
  obtain ⟨rfl, rfl⟩ := List.cons.inj q1
  obtain ⟨F1, F2, F3, e1, e2⟩ := h.sl.set hi q3
  have es : σ.set i (some v) = σ := by
    refine List.ext_getElem? fun j => ?_
    by_cases e : i = j
    · subst e
      rw [hv]
      exact List.getElem?_set_self (List.getElem?_eq_some_iff.mp hv).1
    · exact List.getElem?_set_ne e
  rw [es] at e2
  refine ⟨F1 ++ (G1 ++ F3), G2, h.evo, e2, q4, fun a => ?_, fun a ha => h.out a ?_, h.str, h.bst, h.tab, h.pin⟩
  · have := h.nd a
    rw [e1, q2] at this
    simp only [List.count_append] at this ⊢
    omega
  · rw [e1, q2]
    simp only [List.count_append] at ha ⊢
    omega
end
section
variable {S : Sit} {n : Nat} {Γ : Slots} {K : Nat → Slots → OT → Prop} {pos p p1 : Pos}
/-- f(e, ..): what is handed over is handed over as it is, and forgotten -/
theorem he_callM {x : Str} {ps : List Str} {sp : FSpec} {k : Nat} {e : Expr} {es : List Expr} (O : OkF S.X.prog S.X.w S.X.K S.X.mg S.X.base S.Z k x ps sp) (hr : Room k S.X.A)
    (h : HA S (e :: es) n Γ fun n1 Γ1 rs => rs.length = ps.length ∧ sp rs n1 (fun n' _ r => K n' Γ1 r) fun n' C ns ds => S.XP n' Γ1 C ns ds) (hg : Gl S.X x := by rfl)
    (hdb : (x == ("__debug__" : Str)) = false := by decide) (he : starEach (e :: es) S.X.env = (false, eval e S.X.env) :: starEach es S.X.env := by rfl) (hpl : (backTo pos (starEach es S.X.env)).any (·.1) = false := by rfl) :
    HE S (.Call (.Name x p) (e :: es) [] pos) n Γ K := by
  obtain ⟨f, fd, o1, o2, o3, o4⟩ := O
  intro Δ σ vs H Q a q
  refine ⟨_, pe_callS o4 hr hg o1 o2 o3 (fun σ => passAt S.tk σ) pa_c hdb he hpl, h Δ σ vs H _ a fun n1 Γ1 rs xs H1 ⟨hl, hk⟩ hx ⟨B, F, G, a2⟩ => ?_⟩
  obtain ⟨G1, c1, c2, c3⟩ := a2.call hx
  refine ⟨n1, _, B, G1, _, _, hl, c1, hk, fun n' outs r v H2 B2 F2 G2 hK c => q n' Γ1 r v H2 hK (c2 n' outs r v H2 B2 F2 G2 c), fun n' C ns ds d H2 B2 hX c => ?_⟩
  obtain ⟨G', a3, ed⟩ := c3 n' ns ds d H2 B2 c
  have a5 : AtB S.Z S.E n' Γ1 (Δ ++ []) σ (vs ++ []) H2 B2 F G' := by rw [List.append_nil, List.append_nil]; exact a3
  obtain ⟨G'', _, a6⟩ := a5.pop (a3.tm.len)
  have eG : G'' = [] := a6.tm.2
  rw [eG] at a6
  exact S.xo n' Γ1 C ns ds d σ H2 B2 F a6 ed hX
/-- f(x), x an owned slot: it is lent, and changed -/
theorem he_callB (i : Nat) {x y : Str} {ps : List Str} {sp : FSpec} {k : Nat} {t : OT} (O : OkF S.X.prog S.X.w S.X.K S.X.mg S.X.base S.Z k x ps sp) (hr : Room k S.X.A) (ht : Γ[i]? = some (some t)) (hps : ps.length = 1)
    (hk : sp [t] n (fun n' outs r => ∃ t', outs = [t'] ∧ K n' (Γ.set i (some t')) r) fun n' C ns ds => S.XP n' (Γ.set i none) C ns ds)
    (hN : S.X.N[i]? = some y) (hv : Vis S.X.env.scope y) (hd : (y == ("__debug__" : Str)) = false := by decide) (hcd : (y == ("__classdict__" : Str)) = false := by decide) (hg : Gl S.X x := by rfl)
    (hdb : (x == ("__debug__" : Str)) = false := by decide) (he : starEach [.Name y p1] S.X.env = (false, eval (.Name y p1) S.X.env) :: starEach [] S.X.env := by rfl) (hpl : (backTo pos (starEach [] S.X.env)).any (·.1) = false := by rfl) :
    HE S (.Call (.Name x p) [.Name y p1] [] pos) n Γ K := by
  obtain ⟨f, fd, o1, o2, o3, o4⟩ := O
  intro Δ σ vs H Q ⟨B, F, G, a⟩ q
  obtain ⟨F', G', v, hσ, a2⟩ := a.move ht
  refine ⟨_, pe_callS o4 hr hg o1 o2 o3 (fun σ => passAt S.tk σ) (pa_cons (pe_var hN hv hd hcd) pa_nil he) hdb he hpl, v, hσ, ?_⟩
  obtain ⟨G1, c1, c2, c3⟩ := AtB.callO (rs := [t]) (xs := [v]) a2 rfl
  refine ⟨n, [t], B, G1, _, _, hps.symm, c1, hk, fun n' outs r u H2 B2 F2 G2 ⟨t', ho, hK⟩ c => ?_, fun n' C ns ds d H2 B2 hX c => ?_⟩
  · subst ho
    obtain ⟨B3, F3, G3, a3⟩ := c2 n' [t'] r u H2 B2 F2 G2 c
    obtain ⟨G4, a4⟩ := AtB.rot (rs := [r]) (xs := [u]) (r := t') (x := v) a3 rfl
    obtain ⟨F5, G5, a5⟩ := AtB.putBack (i := i) a4 (by rw [List.length_set]; exact (List.getElem?_eq_some_iff.mp ht).1) hσ
    rw [List.set_set] at a5
    exact q n' _ r u H2 hK ⟨_, _, _, a5⟩
  · obtain ⟨G', a3, ed⟩ := c3 n' ns ds d H2 B2 c
    have a5 : AtB S.Z S.E n' (Γ.set i none) (Δ ++ []) σ (vs ++ []) H2 B2 F' G' := by rw [List.append_nil, List.append_nil]; exact a3
    obtain ⟨G'', _, a6⟩ := a5.pop (a3.tm.len)
    have eG : G'' = [] := a6.tm.2
    rw [eG] at a6
    exact S.xo n' _ C ns ds d σ H2 B2 F' a6 ed hX
end
end DL

set_option Elab.async false
set_option linter.all false
set_option maxRecDepth 100000
set_option maxHeartbeats 4000000
/-! DLL: rows (lists or tuples); dict comprehensions; objects. -/
namespace DL
open PySem PySem.Spec PyProof.Rows L2 Evl

/-! ### rows -/
def rowD : D → List D
  | .lst ds => ds
  | .tup ds => ds
  | _ => []
theorem row_cases {d : D} (h : isRow d = true) : d = .lst (rowD d) ∨ d = .tup (rowD d) := by
  cases d with
  | lst ds => exact .inl rfl
  | tup ds => exact .inr rfl
  | _ => cases h
section
variable {S : Sit} {n : Nat} {Γ : Slots} {K : Nat → Slots → OT → Prop} {KI : Nat → Slots → List D → Prop} {pos p tpos xpos : Pos} {elts : List Expr} {kk : Nat}
theorem hi_rowV (i : Nat) {tg : Expr} {x : Str} {d : D} (hN : S.X.N[i]? = some x) (hv : Vis S.X.env.scope x) (he : Γ[i]? = some (some (.frz d))) (hd : isRow d = true) (k : KI n Γ (rowD d))
    (h1 : (x == ("__debug__" : Str)) = false := by decide) (h2 : (x == ("__classdict__" : Str)) = false := by decide) : HI S tg (.Name x pos) n Γ KI := by
  rcases row_cases hd with e | e
  · exact hi_list (he_var i hN hv he ⟨_, e, k⟩ h1 h2)
  · exact hi_tup (he_var i hN hv he ⟨_, e, k⟩ h1 h2)
theorem hi_enumV (i : Nat) {x : Str} {d : D} (hm : S.X.mg "enumerate" = none) (hN : S.X.N[i]? = some x) (hv : Vis S.X.env.scope x) (he : Γ[i]? = some (some (.frz d))) (hd : isRow d = true) (k : KI n Γ (enumD (rowD d)))
    (h1 : (x == ("__debug__" : Str)) = false := by decide) (h2 : (x == ("__classdict__" : Str)) = false := by decide) (hg : Gl S.X "enumerate" := by rfl) (hs : starEach [.Name x xpos] S.X.env = [(false, eval (.Name x xpos) S.X.env)] := by rfl) :
    HI S (.Tuple elts kk tpos) (.Call (.Name "enumerate" p) [.Name x xpos] [] pos) n Γ KI := by
  rcases row_cases hd with e | e
  · exact hi_enumL hm (ha_cons (he_var i hN hv he (ha_nil ⟨rowD d, by rw [← e], k⟩) h1 h2)) hg hs
  · exact hi_enumT hm (ha_cons (he_var i hN hv he (ha_nil ⟨rowD d, by rw [← e], k⟩) h1 h2)) hg hs
theorem hf_lenR {d : D} (hd : isRow d = true) (k : K n Γ (.frz (.int (rowD d).length))) : HF S (.builtin "len") [.frz d] n Γ K := by
  rcases row_cases hd with e | e <;> rw [e]
  · exact hf_lenL k
  · exact hf_lenT k
theorem hf_listR {d : D} (hd : isRow d = true) (k : K n Γ (.ol ((rowD d).map .frz))) : HF S (.type "list") [.frz d] n Γ K := by
  rcases row_cases hd with e | e <;> rw [e]
  · exact hf_listL k
  · exact hf_listT k
theorem hf_tupR {d : D} (hd : isRow d = true) (k : K n Γ (.frz (.tup (rowD d)))) : HF S (.type "tuple") [.frz d] n Γ K := by
  rcases row_cases hd with e | e <;> rw [e]
  · exact hf_tupL k
  · exact hf_tupT k
theorem o_ixR {d : D} {i : Int} {e : D} (hd : isRow d = true) (he : atI (rowD d) i = some e) (k : K n Γ (.frz e)) : HO2 S (cX S.X) n Γ (.frz d) (.frz (.int i)) K := by
  rcases row_cases hd with q | q <;> rw [q]
  · exact o_ixL he k
  · exact o_ixT he k

/-! ### {k: v for x in ..}, keys ints or texts, values flat -/
def kD : Key → D
  | .inl i => .int i
  | .inr x => .str x
def dctO (acc : List (Key × D)) : OT := .od (acc.map fun p => kD p.1) (acc.map fun p => .frz p.2)
def putD (acc : List (Key × D)) (k : Key) (d : D) : List (Key × D) :=
  if (acc.any fun p => decide (p.1 = k)) = true then acc.map (fun p => if p.1 = k then (p.1, d) else p) else acc ++ [(k, d)]
theorem keysD_k : ∀ acc : List (Key × D), keysD (acc.map fun p => kD p.1) = some (acc.map (·.1))
  | [] => rfl
  | (.inl i, d) :: acc => by
    show (match keyD (.int i), keysD (acc.map fun p => kD p.1) with | some k, some ks => some (k :: ks) | _, _ => none) = _
    rw [keysD_k acc]; rfl
  | (.inr x, d) :: acc => by
    show (match keyD (.str x), keysD (acc.map fun p => kD p.1) with | some k, some ks => some (k :: ks) | _, _ => none) = _
    rw [keysD_k acc]; rfl
theorem rpKey {KK : PySem.W.Frag} {B : Hp} {k : Key} {v : V} (h : Rp KK B (kD k) v) : v = kV k := by
  cases k <;> exact h
/-- the pairs of a dict and its data -/
def KvD (KK : PySem.W.Frag) (B : Hp) : List (Key × D) → List (Key × V) → Prop
  | [], kvs => kvs = []
  | (k, d) :: acc, kvs => ∃ v r, kvs = (k, v) :: r ∧ Rp KK B d v ∧ KvD KK B acc r
theorem KvD.len {KK : PySem.W.Frag} {B : Hp} : ∀ {acc : List (Key × D)} {kvs : List (Key × V)}, KvD KK B acc kvs → kvs.length = acc.length
  | [], _, h => by rw [show _ = [] from h]; rfl
  | (k, d) :: acc, _, ⟨v, r, e1, e2, e3⟩ => by rw [e1, List.length_cons, List.length_cons, KvD.len e3]
theorem KvD.mono {KK : PySem.W.Frag} {B B' : Hp} (e : Ex B B') : ∀ {acc : List (Key × D)} {kvs : List (Key × V)}, KvD KK B acc kvs → KvD KK B' acc kvs
  | [], _, h => h
  | (k, d) :: acc, _, ⟨v, r, e1, e2, e3⟩ => ⟨v, r, e1, e2.mono e, KvD.mono e e3⟩
theorem KvD.map {KK : PySem.W.Frag} {B : Hp} {k : Key} {d : D} {v : V} (hv : Rp KK B d v) : ∀ {acc : List (Key × D)} {kvs : List (Key × V)}, KvD KK B acc kvs → KvD KK B (acc.map fun p => if p.1 = k then (p.1, d) else p) (kvs.map fun p => if p.1 = k then (p.1, v) else p)
  | [], _, h => by rw [show _ = [] from h]; exact rfl
  | (j, c) :: acc, _, ⟨u, r, e1, e2, e3⟩ => by
    subst e1
    by_cases q : j = k
    · simp only [List.map_cons, if_pos q]
      exact ⟨v, _, rfl, hv, KvD.map hv e3⟩
    · simp only [List.map_cons, if_neg q]
      exact ⟨u, _, rfl, e2, KvD.map hv e3⟩
theorem KvD.app {KK : PySem.W.Frag} {B : Hp} : ∀ {acc acc' : List (Key × D)} {kvs kvs' : List (Key × V)}, KvD KK B acc kvs → KvD KK B acc' kvs' → KvD KK B (acc ++ acc') (kvs ++ kvs')
  | [], _, _, _, h, h' => by rw [show _ = [] from h]; exact h'
  | (k, d) :: acc, _, _, _, ⟨v, r, e1, e2, e3⟩, h' => by subst e1; exact ⟨v, _, rfl, e2, KvD.app e3 h'⟩
theorem KvD.any {KK : PySem.W.Frag} {B : Hp} {k : Key} : ∀ {acc : List (Key × D)} {kvs : List (Key × V)}, KvD KK B acc kvs → (kvs.any fun p => decide (p.1 = k)) = (acc.any fun p => decide (p.1 = k))
  | [], _, h => by rw [show _ = [] from h]; rfl
  | (j, c) :: acc, _, ⟨u, r, e1, e2, e3⟩ => by subst e1; rw [List.any_cons, List.any_cons, KvD.any e3]
theorem KvD.put {KK : PySem.W.Frag} {B : Hp} {k : Key} {d : D} {v : V} {acc : List (Key × D)} {kvs : List (Key × V)} (h : KvD KK B acc kvs) (hv : Rp KK B d v) : KvD KK B (putD acc k d) (putK kvs k v) := by
  unfold putD putK
  rw [h.any]
  by_cases q : (acc.any fun p => decide (p.1 = k)) = true
  · rw [if_pos q, if_pos q]
    exact h.map hv
  · rw [if_neg q, if_neg q]
    exact h.app ⟨v, [], rfl, hv, rfl⟩
theorem KvD.split {KK : PySem.W.Frag} {B : Hp} : ∀ {acc : List (Key × D)} {xs : List V}, RpL KK B (acc.map (·.2)) xs → KvD KK B acc ((acc.map (·.1)).zip xs)
  | [], xs, h => by rw [show xs = [] from h]; rfl
  | (k, d) :: acc, xs, ⟨y, ys, e1, e2, e3⟩ => by subst e1; exact ⟨y, _, rfl, e2, KvD.split e3⟩
theorem KvD.join {KK : PySem.W.Frag} {B : Hp} : ∀ {acc : List (Key × D)} {kvs : List (Key × V)}, KvD KK B acc kvs → ∃ xs, kvs = (acc.map (·.1)).zip xs ∧ xs.length = acc.length ∧ RpL KK B (acc.map (·.2)) xs
  | [], _, h => ⟨[], h, rfl, rfl⟩
  | (k, d) :: acc, _, ⟨v, r, e1, e2, e3⟩ => by
    obtain ⟨xs, h1, h2, h3⟩ := KvD.join e3
    exact ⟨v :: xs, by rw [e1, h1]; rfl, by rw [List.length_cons, List.length_cons, h2], v, xs, rfl, e2, h3⟩
/-- a dict of such pairs, owned, as it stands -/
theorem rp_dctO {KK : PySem.W.Frag} {H B : Hp} {acc : List (Key × D)} {v : V} {F : List Addr} (h : RpO KK H B (dctO acc) v F) : ∃ a kvs, v = .ref a ∧ F = [a] ∧ H a = some (.dK kvs) ∧ KvD KK B acc kvs := by
  obtain ⟨a, xs, G, e1, e2, e3, e4⟩ := h
  have e5 : RpOs KK H B ((acc.map (·.2)).map OT.frz) xs G := by rw [List.map_map]; exact e3
  obtain ⟨g0, rl⟩ := RpOs.frzs_inv e5
  subst g0
  obtain ⟨kk, h1, h2, h3⟩ := e4
  rw [keysD_k] at h1
  cases h1
  exact ⟨a, _, e1, e2, h3, KvD.split rl⟩
theorem dctO_rp {KK : PySem.W.Frag} {H B : Hp} {acc : List (Key × D)} {a : Addr} {kvs : List (Key × V)} (h : H a = some (.dK kvs)) (k : KvD KK B acc kvs) : RpO KK H B (dctO acc) (.ref a) [a] := by
  obtain ⟨xs, h1, h2, h3⟩ := k.join
  refine ⟨a, xs, [], rfl, rfl, ?_, _, keysD_k acc, by rw [List.length_map, h2], by rw [← h1]; exact h⟩
  have q := RpOs.frzs (H := H) h3
  rw [List.map_map] at q
  exact q
/-- a frozen temporary goes into an owned dict among the temporaries -/
theorem At.putT {Z : Wd} {E : Ent} {Δ rs : List OT} {σ : L2.St} {vs xs : List V} {H : Hp} {d : D} {w : V} {acc : List (Key × D)} {a : Addr} (h : DL.At Z E n Γ (.frz d :: (rs ++ (dctO acc :: Δ))) σ (w :: (xs ++ (.ref a :: vs))) H) (hl : xs.length = rs.length) :
    ∃ kvs, H a = some (.dK kvs) ∧ kvs.length = acc.length ∧ ∀ k, DL.At Z E n Γ (rs ++ (dctO (putD acc k d) :: Δ)) σ (xs ++ (.ref a :: vs)) (upd H a (.dK (putK kvs k w))) := by
  obtain ⟨B, F, G, h⟩ := h
  obtain ⟨y, ys, F1, F2, e1, e2, e3, e4⟩ := id h.tm
  obtain ⟨rfl, rfl⟩ := List.cons.inj e1
  obtain ⟨ys, zs, G1, G2, q1, q2, q3, q4, q5⟩ := RpOs.split e4
  obtain ⟨rfl, rfl⟩ := List.append_inj q1 (hl.trans q2.symm)
  obtain ⟨y2, ys2, F3, F4, p1, p2, p3, p7⟩ := q5
  obtain ⟨rfl, rfl⟩ := List.cons.inj p1
  obtain ⟨a', kvs, z1, z2, z3, z4⟩ := rp_dctO p3
  obtain rfl := V.ref.inj z1
  have cnt : ∀ b, F.count b + (F1.count b + (G1.count b + ((if a = b then 1 else 0) + F4.count b))) ≤ 1 := fun b => by
    have := h.nd b
    rw [e2, q3, p2, z2] at this
    simp only [List.count_append, List.count_cons, beq_iff_eq, List.count_nil] at this
    omega
  have cD := cnt a
  rw [if_pos rfl] at cD
  refine ⟨kvs, z3, z4.len, fun k => ⟨B, F, G1 ++ ([a] ++ F4), h.mutT z3 (by rw [e2, q3, p2, z2]; simp only [List.count_append, List.count_cons]; simp; omega) (fun _ z => by cases z) (fun _ z => by cases z) ?_ fun b => ?_⟩⟩
  · have kp : ∀ {ts : List OT} {zs : List V} {Gs : List Addr}, RpOs Z.K H B ts zs Gs → Gs.count a = 0 → RpOs Z.K (upd H a (.dK (putK kvs k w))) B ts zs Gs := fun hr hn => hr.upd hn
    exact RpOs.app (kp q4 (by omega)) ⟨.ref a, vs, [a], F4, rfl, rfl, dctO_rp upd_same (z4.put e3.2), kp p7 (by omega)⟩
  · rw [e2, q3, p2, z2]
    simp only [List.count_append, List.count_cons]
    omega
theorem he_dcT {kx vx tg iter : Expr} {ifs : List Expr} {scope : Scope} {own : List (Str × Nat)} {g : TG} {tt : TT}
    (h : HI S tg iter n Γ fun n1 Γ1 ds => ds.length ≤ 100000 ∧ nones Γ1 (own.map (·.2)) ∧ ∃ I : Nat → List (Key × D) → Nat → Slots → Prop, I 0 [] n1 Γ1 ∧
      (∀ i acc n Γ d, ds[i]? = some d → I i acc n Γ → HG S g d n (wipeG Γ (own.map (·.2))) fun n Γ => HTt S tt n Γ fun n Γ b => if b = true then HEb S scope kx n Γ fun n Γ r => ∃ k, r = .frz (kD k) ∧ HEb S scope vx n Γ fun n Γ r => ∃ e, r = .frz e ∧ I (i + 1) (putD acc k e) n (wipeG Γ (own.map (·.2))) else I (i + 1) acc n (wipeG Γ (own.map (·.2)))) ∧
      ∀ acc n Γ, I ds.length acc n Γ → K n Γ (dctO acc))
    (ok : BlkOk S.X.N S.X.env.scope scope own) (hN : S.X.N.Nodup) (hg : ∀ (s : Shared) (H : Hp) (C : Addr) (cl : List (Str × Addr)) (fp : List Addr), PG (S.X.blk s H scope (compEnvC scope cl C S.X.env) fp) tg g)
    (ht : ∀ (s : Shared) (H : Hp) (C : Addr) (cl : List (Str × Addr)) (fp : List Addr), PTs (S.X.blk s H scope (compEnvC scope cl C S.X.env) fp) ifs tt) (gi : GIn g (own.map (·.2))) (hP : ∀ i ∈ own.map (·.2), S.E.P.getD i none = none)
    (hc : S.X.calm = true := by rfl) (hs : ∀ x, foldedSetIterable iter S.X.env x = pure x := by intro _; rfl) : HE S (.DictComp kx vx [⟨tg, iter, ifs, 0⟩] scope pos) n Γ K := by
  intro Δ σ vs H Q at0 q
  refine ⟨_, pe_dc hc hN pi_c ok hg ht pe_b pe_b hs, h Δ σ vs H _ at0 fun n1 Γ1 ds ts0 vs0 J H1 ⟨hz, hn, I, h0, hst, hd⟩ hl a1 wk D hD => ?_⟩
  have hl' : vs0.length = (ts0.map OT.frz).length := by rw [hl, List.length_map]
  have hpin := At.pinned at0
  refine ⟨fun i k H => i + k = ds.length ∧ ∃ n Γ acc, acc.length ≤ i ∧ nones Γ (own.map (·.2)) ∧ I i acc n Γ ∧ S.At n Γ (ts0.map OT.frz ++ (dctO acc :: Δ)) σ (vs0 ++ (.ref D :: vs)) H, ⟨ds.length, by omega, n1, Γ1, [], Nat.zero_le _, hn, h0, ?_⟩, fun i k H2 ⟨e, n2, Γ2, acc, hal, hn2, hi, a2⟩ => ?_⟩
  · obtain ⟨B, F, G, a1⟩ := a1
    have g1 := Grow.own (o := .dK []) a1.evo.sub hD
    have hB := fresh_back a1.evo.sub hD
    have a3 := a1.push (G1 := [D]) g1 (dctO_rp (acc := []) (kvs := []) upd_same rfl) (fun b hb => by
      have : b = D := by
        have := List.count_pos_iff.mp hb
        simpa using this
      subst this
      exact ⟨hD, hB⟩) fun b => by
      rw [List.count_cons]
      simp
      split <;> omega
    obtain ⟨G2, a4⟩ := AtB.rotI a3 hl'
    exact ⟨B, F, G2, a4⟩
  · obtain ⟨w1, w2⟩ := At.walk a2 hl wk
    by_cases qi : i < ds.length
    · obtain ⟨g1, y1⟩ := w1 i _ (List.getElem?_eq_getElem qi)
      refine .inr ⟨g1, fun H' => ∃ n Γ acc, acc.length ≤ i + 1 ∧ nones Γ (own.map (·.2)) ∧ I (i + 1) acc n Γ ∧ S.At n Γ (ts0.map OT.frz ++ (dctO acc :: Δ)) σ (vs0 ++ (.ref D :: vs)) H', fun H' ⟨n3, Γ3, acc3, h1, h2, h3, h4⟩ => ⟨k - 1, by omega, by omega, n3, Γ3, acc3, h1, h2, h3, h4⟩, fun x H3 hy => ?_⟩
      have a3 := y1 x H3 hy
      refine gi _ _ _ _ σ (wipe_wipe fun _ h => h) (hst i acc n2 Γ2 _ (List.getElem?_eq_getElem qi) hi _ (L2.wipe σ (own.map (·.2))) x _ H3 _ (At.wipe a3 hP) fun n3 Γ3 σ3 H4 hk a4 hw => ?_)
      refine hk _ σ3 _ H4 _ a4 fun n4 Γ4 b H5 hk a5 => ?_
      cases b with
      | false => exact ⟨n4, _, acc, by omega, nones_wipe, hk, At.unwipe a5 hw hpin⟩
      | true =>
        intro s0 H0 C cl fp
        refine hk s0 H0 C cl fp _ σ3 _ H5 _ a5 fun n5 Γ5 r w H6 ⟨key, hr, hk⟩ a6 => ?_
        subst hr
        obtain ⟨B0, _, ek⟩ := At.val a6
        have ek := rpKey ek
        intro s1 H1' C1 cl1 fp1
        refine hk s1 H1' C1 cl1 fp1 _ σ3 _ H6 _ a6 fun n6 Γ6 r u H7 ⟨d, hr, hk⟩ a7 => ?_
        subst hr
        obtain ⟨kvs, e1, e2, a8⟩ := At.putT (At.drop (rs := [.frz (kD key)]) (xs := [w]) a7 rfl) hl'
        refine ⟨kvs, key, ek, e1, sz_lt (by omega), n6, _, _, ?_, nones_wipe, hk, At.unwipe (a8 key) hw hpin⟩
        have : (putD acc key d).length ≤ acc.length + 1 := by
          unfold putD
          split
          · rw [List.length_map]; omega
          · rw [List.length_append]; exact Nat.le_refl _
        omega
    · have e : i = ds.length := by omega
      subst e
      exact .inl ⟨w2 _ (Nat.le_refl _), q n2 Γ2 _ _ H2 (hd acc n2 Γ2 hi) (At.pops a2 hl')⟩
/-- {x: c for x in ..}, texts as keys, one flat thing as value -/
theorem he_dcK {kx vx tg iter : Expr} {scope : Scope} (own : List (Str × Nat)) (g : TG) (f : D → Key) (c : D)
    (h : HI S tg iter n Γ fun n1 Γ1 ds => ds.length ≤ 100000 ∧ wipeG Γ1 (own.map (·.2)) = Γ1 ∧
      (∀ d ∈ ds, HG S g d n1 Γ1 fun n2 Γ2 => HEb S scope kx n2 Γ2 fun n3 Γ3 r => r = .frz (kD (f d)) ∧ HEb S scope vx n3 Γ3 fun n4 Γ4 r => n4 = n1 ∧ wipeG Γ4 (own.map (·.2)) = Γ1 ∧ r = .frz c) ∧ K n1 Γ1 (dctO (ds.foldl (fun acc d => putD acc (f d) c) [])))
    (ok : BlkOk S.X.N S.X.env.scope scope own) (hN : S.X.N.Nodup) (hg : ∀ (s : Shared) (H : Hp) (C : Addr) (cl : List (Str × Addr)) (fp : List Addr), PG (S.X.blk s H scope (compEnvC scope cl C S.X.env) fp) tg g)
    (gi : GIn g (own.map (·.2))) (hP : ∀ i ∈ own.map (·.2), S.E.P.getD i none = none)
    (hc : S.X.calm = true := by rfl) (hs : ∀ x, foldedSetIterable iter S.X.env x = pure x := by intro _; rfl) : HE S (.DictComp kx vx [⟨tg, iter, [], 0⟩] scope pos) n Γ K :=
  he_dcT (tt := tYes) (fun Δ σ vs H R a q => h Δ σ vs H R a fun n' Γ' ds ts0 vs0 J H2 ⟨h1, h2, h3, h4⟩ => q n' Γ' ds ts0 vs0 J H2 ⟨h1, h2 ▸ nones_wipe, fun i acc n Γ => n = n' ∧ Γ = Γ' ∧ acc = (ds.take i).foldl (fun acc d => putD acc (f d) c) [], ⟨rfl, rfl, rfl⟩, fun i acc n Γ d hd ⟨e1, e2, e3⟩ => by
      subst e1 e2 e3
      rw [h2]
      refine fun Δ σ v vs H Q a q => h3 d (List.mem_of_getElem? hd) Δ σ v vs H Q a fun n2 Γ2 σ2 H2 hk => q n2 Γ2 σ2 H2 (ht_yes ?_)
      refine (if_pos rfl).mpr ?_
      refine fun s H0 C cl fp Δ σ vs H Q a q => hk s H0 C cl fp Δ σ vs H Q a fun n3 Γ3 r v H3 ⟨z1, z2⟩ => q n3 Γ3 r v H3 ⟨_, z1, ?_⟩
      refine fun s H0 C cl fp Δ σ vs H Q a q => z2 s H0 C cl fp Δ σ vs H Q a fun n3 Γ3 r v H3 ⟨z1, z2, z3⟩ => q n3 Γ3 r v H3 ⟨_, z3, z1, z2, ?_⟩
      rw [List.take_add_one, hd, List.foldl_append]
      rfl, fun acc n Γ ⟨e1, e2, e3⟩ => by
      subst e1 e2 e3
      rw [List.take_length]
      exact h4⟩) ok hN hg (fun _ _ _ _ _ => pts_nil) gi hP hc hs
/-- sorted(d), d a new dict of texts as keys -/
theorem hf_sortDO {acc : List (Key × D)} {zs : List Str} (hc : S.X.calm = true) (hk : acc.map (·.1) = zs.map Sum.inr) (h : zs.length < 64) (k : ∀ ys : List Str, ys.Perm zs → sortedS ys = true → K n Γ (.ol ((ys.map D.str).map .frz))) : HF S (.builtin "sorted") [dctO acc] n Γ K := by
  intro Δ σ xs vs H Q hl a q
  obtain ⟨v, rfl⟩ := one_of hl
  obtain ⟨B, F, G, a⟩ := a
  obtain ⟨y, ys, F1, F2, e1, e2, e3, e4⟩ := id a.tm
  obtain ⟨rfl, rfl⟩ := List.cons.inj e1
  obtain ⟨p, kvs, rfl, _, z3, z4⟩ := rp_dctO e3
  have ek : kvs.map (·.1) = acc.map (·.1) := by
    obtain ⟨us, h1, h2, h3⟩ := z4.join
    rw [h1, List.map_fst_zip]
    rw [List.length_map, h2]; exact Nat.le_refl _
  obtain ⟨G1, k1⟩ := a.pop1
  exact ⟨_, call_sortedD hc, p, kvs, zs, rfl, .of z3, ek.trans hk, h, fun ys l hp hs hl => q n Γ _ _ _ (k ys hp hs) (k1.newL hl (RpL.strs ys))⟩
end
end DL

set_option Elab.async false
set_option linter.all false
set_option maxRecDepth 100000
set_option maxHeartbeats 4000000
/-! DLM: objects of own classes; own exceptions raised. -/
namespace DL
open PySem PySem.Spec PyProof.Rows L2 Evl

/-! ### calls of methods, the making of objects, with what they let out told at the caller's slots -/
section
variable {X : Cx} {CX : CXT} {k : Nat} {f C : Addr} {fd : FuncData} {ps : List Str} {sp : Sp} {E : L2.St → XK} {x m : Str} {p pos apos : Pos} {e o : Expr} {es : List Expr} {ta : TE} {t : TA}
def tMethS (C : Addr) (m : Str) (sp : Sp) (E : L2.St → XK) (ta : TE) (t : TA) : TE := fun σ H Q => ta σ H fun x H1 => ∃ a dx fs, x = .ref a ∧ H1 a = some (.ins C dx fs) ∧ fs.lookup m = none ∧ t σ H1 fun vs H2 => sp (x :: vs) H2 Q (E σ)
theorem pe_methAt {pl : Sem Bool} (he : PE X o ta) (c : Cls X.K C) (hm : Meth X.K C m f) (F : FnOk X.prog X.w X.K X.mg X.base CX k f fd ps sp) (hr : Room k X.A) (hb : Binds X.K fd ps []) (hx : ∀ σ, PassesAt CX X σ (E σ)) (ha : PA X (e :: es) t)
    (hst : starEach (e :: es) X.env = (false, eval e X.env) :: starEach es X.env := by rfl) (hpl : (backTo pos (starEach es X.env)).any (·.1) = false := by rfl)
    (ht : eval (.Call (.Attribute o m apos) (e :: es) [] pos) X.env = (do
      let ov ← eval o X.env
      standAt apos.atName
      let (f, first) ← holding [ov] (getMethod ov m pl)
      callWith pos f first (backTo pos (starEach (e :: es) X.env)) (backToKw pos (keywordEach [] X.env))) := by rfl) :
    PE X (.Call (.Attribute o m apos) (e :: es) [] pos) (tMethS C m sp E ta t) := by
  refine ⟨fun pins s σ H Q I h => ?_⟩
  refine PySem.W.methodCall_KW (pl := pl) (thn (he.run pins s σ H _ I h) fun u s1 ⟨x, H1, I1, rx, a, dx, fs, ex, ea, l, q⟩ => ?_) ht
  subst ex
  obtain rfl : u = Value.ref a := rx
  refine getmeth_ok I1 ea c hm l ?_
  refine PySem.W.callWith_K (first := [.ref a]) (h₀ := X.base) I.ok.mod.kin hm.kp (thn (ha.run pos pins s1 σ H1 _ I1 q) fun us s2 ⟨vs, H2, I2, r, q2⟩ => ⟨I2.kIn, ?_⟩) hst hpl
  exact run_fnS (us := .ref a :: us) (vs := .ref a :: vs) F hr hb (hx σ) I2 (.cons rfl r) q2
theorem pe_methAt0 {pl : Sem Bool} (he : PE X o ta) (c : Cls X.K C) (hm : Meth X.K C m f) (F : FnOk X.prog X.w X.K X.mg X.base CX k f fd ps sp) (hr : Room k X.A) (hb : Binds X.K fd ps []) (hx : ∀ σ, PassesAt CX X σ (E σ))
    (ht : eval (.Call (.Attribute o m apos) [] [] pos) X.env = (do
      let ov ← eval o X.env
      standAt apos.atName
      let (f, first) ← holding [ov] (getMethod ov m pl)
      callWith pos f first (backTo pos (starEach [] X.env)) (backToKw pos (keywordEach [] X.env))) := by rfl) :
    PE X (.Call (.Attribute o m apos) [] [] pos) (tMethS C m sp E ta tNil) := by
  refine ⟨fun pins s σ H Q I h => ?_⟩
  refine PySem.W.methodCall_KW (pl := pl) (thn (he.run pins s σ H _ I h) fun u s1 ⟨x, H1, I1, rx, a, dx, fs, ex, ea, l, q⟩ => ?_) ht
  subst ex
  obtain rfl : u = Value.ref a := rx
  refine getmeth_ok I1 ea c hm l ?_
  exact PySem.W.callWith_K0 (first := [.ref a]) I1.kIn hm.kp (run_fnS (us := [.ref a]) (vs := [.ref a]) F hr hb (hx σ) I1 (.cons rfl .nil) q)
def tMakeS (C : Addr) (sp : Sp) (E : L2.St → XK) (t : TA) : TE := fun σ H Q => t σ H fun vs H1 => ∀ x dx, H1 x = none → H1 dx = none → dx ≠ x →
  sp (.ref x :: vs) (upd (upd H1 dx (.own x)) x (.ins C dx [])) (fun v H2 => v = .non ∧ Q (.ref x) H2) (E σ)
theorem run_makeAt {pins : List (Addr × Obj)} {σ : L2.St} {H : Hp} {s : Shared} {Q : VK} {us : List Value} {vs : List V} (M : Mk X.K C f) (F : FnOk X.prog X.w X.K X.mg X.base CX k f fd ps sp) (hr : Room (k + 1) X.A) (hb : Binds X.K fd ps [])
    (hx : PassesAt CX X σ (E σ)) (I : Inv X pins σ H s) (r : Vals vs us)
    (h : ∀ x dx, H x = none → H dx = none → dx ≠ x → sp (.ref x :: vs) (upd (upd H dx (.own x)) x (.ins C dx [])) (fun v H2 => v = .non ∧ Q (.ref x) H2) (E σ)) :
    wpAny (model X.prog X.w) X.A (call (.ref C) us) (EP X pins σ Q) X.xe s := by
  have hq := h (s.heap.objs.size + 1) s.heap.objs.size (I.hok.fresh (Nat.le_succ _)) (I.hok.fresh (Nat.le_refl _)) (Nat.ne_of_lt (Nat.lt_succ_self _))
  have I2 := Inv.made (C := C) I
  have r2 : Vals (V.ref (s.heap.objs.size + 1) :: vs) (Value.ref (s.heap.objs.size + 1) :: us) := .cons rfl r
  have hl : (Value.ref (s.heap.objs.size + 1) :: us).length = ps.length := by
    have e := r2.length
    rw [F.len _ _ _ _ hq] at e
    exact e.symm
  have b := hb { s with heap := ((s.heap.push { cls := .type "dict", data := .dict #[] }).push { cls := .ref C, dict := some s.heap.objs.size, data := .fields #[] }) } (Value.ref (s.heap.objs.size + 1) :: us)
  refine wpAny_call (make_map (f := f) I.kIn M.makes M.init (beq_iff_eq.mp M.fn) (codeAny_mono (F.run _ X.stack _ _ ⟨Value.ref (s.heap.objs.size + 1) :: us, []⟩ (Value.ref (s.heap.objs.size + 1) :: us) _ _ (E σ) (hr.make C us [])
    (I2.env0.make C us []) (by have b := hb _ (Value.ref (s.heap.objs.size + 1) :: us) I2.kIn (by rw [List.append_nil]; exact hl); rw [List.append_nil] at b; exact b) r2 hq) fun r s' hq' => ?_))
  cases r with
  | error e => exact hx pins _ _ e s' I2 hq'
  | ok fl =>
    cases fl with
    | ret u =>
      obtain ⟨v, H', I3, rv, ev, q3⟩ := I2.after hq'
      subst ev
      exact ⟨rv, ⟨V.ref (s.heap.objs.size + 1), H', I3, rfl, q3⟩⟩
    | next => exact False.elim hq'
    | brk => exact False.elim hq'
    | cont => exact False.elim hq'
theorem pe_makeAt (M : Mk X.K C f) (F : FnOk X.prog X.w X.K X.mg X.base CX k f fd ps sp) (hr : Room (k + 1) X.A) (hg : Gl X x) (hm : X.mg x = some (.ref C)) (hb : Binds X.K fd ps []) (hx : ∀ σ, PassesAt CX X σ (E σ))
    (ha : PA X (e :: es) t) (hdb : (x == ("__debug__" : Str)) = false := by decide) (he : starEach (e :: es) X.env = (false, eval e X.env) :: starEach es X.env := by rfl) (hpl : (backTo pos (starEach es X.env)).any (·.1) = false := by rfl) :
    PE X (.Call (.Name x p) (e :: es) [] pos) (tMakeS C sp E t) := by
  refine ⟨fun pins s σ H Q I h => ?_⟩
  refine wpAny_Call_Name_kw (ld_glob I hg hm ?_ hdb)
  refine PySem.W.callWith_K (h₀ := X.base) I.ok.mod.kin M.kp (thn (ha.run pos pins s σ H _ I h) fun us s1 ⟨vs, H1, I1, r, q⟩ => ⟨I1.kIn, ?_⟩) he hpl
  exact run_makeAt M F hr hb (hx σ) I1 r q
end
theorem zip_rp {KK : PySem.W.Frag} {B : Hp} {f : Str} {d : D} : ∀ {ns : List Str} {ds : List D} {xs : List V}, RpL KK B ds xs → (ns.zip ds).lookup f = some d → ∃ x, (ns.zip xs).lookup f = some x ∧ Rp KK B d x
  | [], ds, xs, _, e => by simp at e
  | m :: ns, [], xs, _, e => by simp at e
  | m :: ns, c :: ds, _, ⟨y, ys, e1, e2, e3⟩, e => by
    subst e1
    rw [List.zip_cons_cons, List.lookup_cons] at e ⊢
    by_cases q : (f == m) = true
    · rw [q] at e ⊢
      cases e
      exact ⟨y, rfl, e2⟩
    · have q : (f == m) = false := by simpa using q
      rw [q] at e ⊢
      exact zip_rp e3 e
section
variable {S : Sit} {n : Nat} {Γ : Slots} {K : Nat → Slots → OT → Prop} {P : Post} {pos p p2 apos : Pos}
/-- e.f, e a frozen object -/
theorem he_fld {e : Expr} {f : Str} (h : HE S e n Γ fun n1 Γ1 r => ∃ C ns ds d, r = .frz (.obj C ns ds) ∧ Cls S.X.K C ∧ NoAttr S.X.K C f ∧ (ns.zip ds).lookup f = some d ∧ K n1 Γ1 (.frz d))
    (hb : attributeBase e f S.X.env (eval e S.X.env) = eval e S.X.env := by rfl) : HE S (.Attribute e f pos) n Γ K := by
  intro Δ σ vs H Q at0 q
  refine ⟨_, pe_fld pe_c hb, h Δ σ vs H _ at0 fun n1 Γ1 r v H1 ⟨C, ns, ds, d, hr, hC, hA, hl, hk⟩ a1 => ?_⟩
  subst hr
  obtain ⟨B, F, G, k1, a, dx, xs, rfl, e1, e2, e3⟩ := At.open1 a1
  obtain ⟨x, h1, h2⟩ := zip_rp e3 hl
  exact ⟨a, C, dx, _, x, rfl, k1.evo.sub _ _ e1, hC, hA, h1, q n1 Γ1 _ x H1 hk ⟨B, F, G, k1.pushV h2⟩⟩
theorem RpOs.at : ∀ {K : PySem.W.Frag} {H B : Hp} {ts : List OT} {xs : List V} {F : List Addr} {i : Nat} {t : OT}, RpOs K H B ts xs F → ts[i]? = some t →
    ∃ v F1 F2 F3, xs[i]? = some v ∧ F = F1 ++ (F2 ++ F3) ∧ RpO K H B t v F2 ∧
      ∀ {H' B' : Hp}, Ex B B' → (∀ a ∈ F1 ++ F3, ∀ o, H a = some o → H' a = some o) → ∀ (t' : OT) (v' : V) (G : List Addr), RpO K H' B' t' v' G → RpOs K H' B' (ts.set i t') (xs.set i v') (F1 ++ (G ++ F3))
  | _, _, _, [], _, _, _, _, _, e => by simp at e
  | _, _, _, t :: ts, _, _, 0, t', ⟨v, xs', F1, F2, e1, e2, e3, e4⟩, e => by
    obtain rfl : t = t' := Option.some.inj e
    refine ⟨v, [], F1, F2, by rw [e1]; rfl, e2, e3, fun eB k t' v' G hr => ?_⟩
    rw [e1]
    exact ⟨v', xs', G, F2, rfl, rfl, hr, RpOs.mono eB k e4⟩
  | _, _, _, t :: ts, _, _, i + 1, t', ⟨v, xs', F1, F2, e1, e2, e3, e4⟩, e => by
    obtain ⟨v', G1, G2, G3, h1, h2, h3, h4⟩ := RpOs.at (i := i) e4 e
    refine ⟨v', F1 ++ G1, G2, G3, by rw [e1]; exact h1, by rw [e2, h2, List.append_assoc], h3, fun eB k t' w G hr => ?_⟩
    rw [e1]
    refine ⟨v, _, F1, _, rfl, by rw [List.append_assoc], RpO.mono eB (fun a ha => k a (List.mem_append_left _ (List.mem_append_left _ ha))) e3, h4 eB (fun a ha => k a ?_) t' w G hr⟩
    rcases List.mem_append.mp ha with z | z
    · exact List.mem_append_left _ (List.mem_append_right _ z)
    · exact List.mem_append_right _ z
theorem set_self {α : Type} {xs : List α} {i : Nat} {v : α} (h : xs[i]? = some v) : xs.set i v = xs := by
  refine List.ext_getElem? fun j => ?_
  by_cases e : i = j
  · subst e
    rw [h]
    exact List.getElem?_set_self (List.getElem?_eq_some_iff.mp h).1
  · exact List.getElem?_set_ne e
/-- a field of an owned object in a slot is frozen -/
theorem AtB.freezeFld {Z : Wd} {E : Ent} {Δ : List OT} {σ : L2.St} {vs : List V} {H B : Hp} {F G : List Addr} {i k : Nat} {C : Addr} {ns : List Str} {ts : List OT} {t : OT} (h : AtB Z E n Γ Δ σ vs H B F G) (e : Γ[i]? = some (some (.oo C ns ts))) (ek : ts[k]? = some t) :
    ∃ B' F' a dx xs v, Ex B B' ∧ σ[i]? = some (some (.ref a)) ∧ H a = some (.ins C dx (ns.zip xs)) ∧ ns.length = xs.length ∧ xs[k]? = some v ∧ Rp Z.K B' t.d v ∧ AtB Z E n (Γ.set i (some (.oo C ns (ts.set k (.frz t.d))))) Δ σ vs H B' F' G := by
  obtain ⟨v, F1, F2, F3, h1, h2, ⟨a, dx, xs, G1, rfl, e2, e3, e4, e5, e6⟩, h4, h5⟩ := h.sl.at e
  obtain ⟨v, K1, K2, K3, z1, z2, z3, z4⟩ := RpOs.at e6 ek
  have hG : ∀ b, 0 < K2.count b → 0 < F.count b + G.count b := fun b hb => by
    rw [h2, e2, z2]; simp only [List.count_append, List.count_cons]; omega
  have eB : Ex B (frzB H B K2) := frzB_ex fun b hb => (h.out b (hG b (List.count_pos_iff.mpr hb))).1
  have rp : Rp Z.K (frzB H B K2) t.d v := RpO.freeze eB (fun b hb => frzB_in hb) z3
  have q := z4 eB (fun _ _ _ e => e) (.frz t.d) v [] ⟨rfl, rp⟩
  rw [set_self z1] at q
  refine ⟨frzB H B K2, F1 ++ ((a :: dx :: (K1 ++ ([] ++ K3))) ++ F3), a, dx, xs, v, eB, h1, e3, e5, z1, rp, h.frzG hG (h4 eB (fun _ _ _ e => e) _ _ ⟨a, dx, xs, _, rfl, rfl, e3, e4, e5, q⟩) (RpOs.mono eB (fun _ _ _ e => e) h.tm) (fun b => ?_) fun b hb => ?_⟩
  · rw [h2, e2, z2]; simp only [List.count_append, List.count_cons, List.count_nil]; omega
  · have := h.nd b
    rw [h2, e2, z2] at this
    simp only [List.count_append, List.count_cons, List.count_nil] at this hb
    omega
theorem lookup_zip {α : Type} {f : Str} : ∀ {ns : List Str} {xs : List α} {k : Nat} {v : α}, ns.Nodup → ns[k]? = some f → xs[k]? = some v → (ns.zip xs).lookup f = some v
  | [], _, _, _, _, e, _ => by simp at e
  | m :: ns, [], _, _, _, _, e => by simp at e
  | m :: ns, x :: xs, 0, v, _, e, e' => by
    obtain rfl : m = f := Option.some.inj e
    obtain rfl : x = v := Option.some.inj e'
    rw [List.zip_cons_cons, List.lookup_cons, beq_self_eq_true]
  | m :: ns, x :: xs, k + 1, v, hn, e, e' => by
    have hm : m ≠ f := fun z => by
      subst z
      have := List.nodup_cons.mp hn
      exact this.1 (List.mem_of_getElem? (by simpa using e))
    have hb : (f == m) = false := by simpa using Ne.symm hm
    rw [List.zip_cons_cons, List.lookup_cons, hb]
    exact lookup_zip (List.nodup_cons.mp hn).2 (by simpa using e) (by simpa using e')
/-- x.f, x an owned object's name: the field is frozen -/
theorem he_fldO (i k : Nat) {x f : Str} {C : Addr} {ns : List Str} {ts : List OT} {t : OT} (h0 : Γ[i]? = some (some (.oo C ns ts))) (hC : Cls S.X.K C) (hA : NoAttr S.X.K C f) (hn : ns.Nodup) (hf : ns[k]? = some f) (ht : ts[k]? = some t)
    (hk : K n (Γ.set i (some (.oo C ns (ts.set k (.frz t.d))))) (.frz t.d)) (hN : S.X.N[i]? = some x) (hv : Vis S.X.env.scope x) (hd : (x == ("__debug__" : Str)) = false := by decide) (hcd : (x == ("__classdict__" : Str)) = false := by decide)
    (hb : attributeBase (.Name x p) f S.X.env (eval (.Name x p) S.X.env) = eval (.Name x p) S.X.env := by rfl) : HE S (.Attribute (.Name x p) f pos) n Γ K := by
  intro Δ σ vs H Q ⟨B, F, G, a⟩ q
  obtain ⟨B', F', b, dx, xs, v, eB, h1, h2, h3, h4, h5, h6⟩ := a.freezeFld h0 ht
  refine ⟨_, pe_fld (pe_var hN hv hd hcd) hb, _, h1, b, C, dx, _, v, rfl, h2, hC, hA, lookup_zip hn hf h4, q n _ _ v H hk ⟨B', F', G, h6.pushV h5⟩⟩
theorem putF_new {f : Str} {v : V} : ∀ {ns : List Str} {xs : List V}, ns.length = xs.length → f ∉ ns → putF f v (ns.zip xs) = (ns ++ [f]).zip (xs ++ [v])
  | [], [], _, _ => rfl
  | [], _ :: _, h, _ => by simp at h
  | _ :: _, [], h, _ => by simp at h
  | m :: ns, x :: xs, h, hf => by
    have hm : m ≠ f := fun z => hf (z ▸ List.mem_cons_self)
    show (if m = f then _ else (m, x) :: putF f v (ns.zip xs)) = _
    rw [if_neg hm, putF_new (by simpa using h) (fun z => hf (List.mem_cons_of_mem _ z))]
    rfl
/-- x.f = e, x an owned object's name, f new -/
theorem hs_fldNew (i : Nat) {x f : Str} {e : Expr} {p' : Pos}
    (h : HE S e n Γ fun n1 Γ1 r => ∃ C ns ts, Γ1[i]? = some (some (.oo C ns ts)) ∧ Cls S.X.K C ∧ NoAttr S.X.K C f ∧ f ∉ ns ∧ ns.length < 900 ∧ P.nx n1 (Γ1.set i (some (.oo C (ns ++ [f]) (ts ++ [r])))))
    (hN : S.X.N[i]? = some x) (hv : Vis S.X.env.scope x) (hd : (x == ("__debug__" : Str)) = false := by decide) (hcd : (x == ("__classdict__" : Str)) = false := by decide)
    (hs : swapsWith e (some (.Attribute (.Name x p) f p')) pos.line S.X.env = pure false := by rfl) : HS S (.Assign [.Attribute (.Name x p) f p'] e pos) n Γ P := by
  intro Δ σ vs H D at0 m
  refine ⟨_, ps_fld (pe_var hN hv hd hcd) pe_c hs, h Δ σ vs H _ at0 fun n1 Γ1 r y H1 ⟨C, ns, ts, hΓ, hC, hA, hf, hl, hk⟩ ⟨B, F, G, a1⟩ => ?_⟩
  obtain ⟨v, F1, F2, F3, h1, h2, ⟨a, dx, xs, G1, rfl, e2, e3, e4, e5, e6⟩, h4, _⟩ := a1.sl.at hΓ
  obtain ⟨y', ys', Gr, G2, q1, q3, q4, q5⟩ := id a1.tm
  obtain ⟨rfl, rfl⟩ := List.cons.inj q1
  have cnt : ∀ b, F1.count b + ((if a = b then 1 else 0) + (if dx = b then 1 else 0) + G1.count b + F3.count b) + (Gr.count b + G2.count b) ≤ 1 := fun b => by
    have := a1.nd b
    rw [h2, e2, q3] at this
    simp only [List.count_append, List.count_cons, beq_iff_eq] at this
    omega
  have ca := cnt a
  rw [if_pos rfl] at ca
  have ca2 : (if dx = a then 1 else 0) = 0 := by omega
  have hne : dx ≠ a := fun z => by rw [if_pos z] at ca2; cases ca2
  have lz : (ns.zip xs).length < 1000 := by rw [List.length_zip]; omega
  refine ⟨_, h1, a, C, dx, _, rfl, e3, hC, hA, lz, ?_⟩
  rw [putF_new e5 hf]
  refine m.nx n1 _ σ _ hk ⟨B, F1 ++ ((a :: dx :: (G1 ++ Gr)) ++ F3), G2, AtB.mutAt (rs := [r]) (xs := [y]) a1 (fun b => by rw [q3, List.count_append]; omega) q5 e3 (by rw [h2, e2]; simp only [List.count_append, List.count_cons]; simp; omega) (by omega) (fun _ z => by cases z) (fun _ z => by cases z) (h4 (Ex.refl B) (fun b hb o q => ?_) _ _ ⟨a, dx, xs ++ [y], G1 ++ Gr, rfl, rfl, upd_same, by rw [upd_ne hne]; exact e4, by rw [List.length_append, List.length_append, e5]; rfl, RpOs.app (e6.upd (by omega)) ((RpOs.one q4).upd (by omega))⟩) fun b => ?_⟩
  · rw [upd_ne (fun z => ?_)]
    · exact q
    · rw [z] at hb
      have hb2 : 0 < (F1 ++ F3).count a := List.count_pos_iff.mpr hb
      rw [List.count_append] at hb2
      omega
  · rw [h2, e2, q3]
    simp only [List.count_append, List.count_cons]
    omega

/-! ### methods -/
def OkM (P : Program) (w : World) (K : PySem.W.Frag) (mg : Str → Option Value) (base : Heap) (Z : Wd) (k : Nat) (C : Addr) (m : Str) (ps : List Str) (sp : FSpec) : Prop :=
  ∃ f fd, Meth K C m f ∧ Binds K fd ps [] ∧ FnOk P w K mg base (L2.CX P w) k f fd ps (SpD Z ps.length sp)
theorem lookup_rp {ns : List Str} {f : Str} {α β : Type} : ∀ {xs : List α} {ys : List β}, xs.length = ys.length → (ns.zip xs).lookup f = none → (ns.zip ys).lookup f = none := by
  induction ns with
  | nil => intro xs ys _ _; rfl
  | cons m ns ih =>
    intro xs ys hl e
    cases xs with
    | nil =>
      cases ys with
      | nil => rfl
      | cons y ys => simp at hl
    | cons x xs =>
      cases ys with
      | nil => simp at hl
      | cons y ys =>
        rw [List.zip_cons_cons, List.lookup_cons] at e ⊢
        cases q : (f == m) with
        | true => rw [q] at e; cases e
        | false => rw [q] at e; exact ih (by simpa using hl) e
/-- o.m(), o frozen -/
theorem he_meth0 {o : Expr} {m : Str} {C : Addr} {k : Nat} {R : PSpec} {ps : List Str} {pl : Sem Bool} (O : OkM S.X.prog S.X.w S.X.K S.X.mg S.X.base S.Z k C m ps (pureSp R)) (c : Cls S.X.K C) (hps : ps.length = 1) (hr : Room k S.X.A)
    (h : HE S o n Γ fun n1 Γ1 r => ∃ ns ds, r = .frz (.obj C ns ds) ∧ (ns.zip ds).lookup m = none ∧ R [.obj C ns ds] n1 (fun n' r => K n' Γ1 r) fun n' C ns ds => S.XP n' Γ1 C ns ds)
    (ht : eval (.Call (.Attribute o m apos) [] [] pos) S.X.env = (do
      let ov ← eval o S.X.env
      standAt apos.atName
      let (f, first) ← holding [ov] (getMethod ov m pl)
      callWith pos f first (backTo pos (starEach [] S.X.env)) (backToKw pos (keywordEach [] S.X.env))) := by rfl) : HE S (.Call (.Attribute o m apos) [] [] pos) n Γ K := by
  obtain ⟨f, fd, o1, o2, o3⟩ := O
  intro Δ σ vs H Q at0 q
  refine ⟨_, pe_methAt0 pe_c c o1 o3 hr o2 (fun σ => passAt S.tk σ) ht, h Δ σ vs H _ at0 fun n1 Γ1 r v H1 ⟨ns, ds, hr, hl, hk⟩ a1 => ?_⟩
  subst hr
  obtain ⟨B0, hB0, a, dx, xs, rfl, e1, e2, e3⟩ := At.val a1
  refine ⟨a, dx, _, rfl, hB0 _ _ e1, lookup_rp e3.len.symm hl, ?_⟩
  obtain ⟨B, F, G, a2⟩ := a1
  obtain ⟨G1, c1, c2, c3⟩ := AtB.call (rs := [.frz (.obj C ns ds)]) (xs := [.ref a]) a2 rfl
  refine ⟨n1, [.frz (.obj C ns ds)], B, G1, fun n' outs r => K n' Γ1 r, fun n' C ns ds => S.XP n' Γ1 C ns ds, hps.symm, c1, ⟨[.obj C ns ds], rfl, hk⟩, fun n' outs r v H2 B2 F2 G2 hK c => q n' Γ1 r v H2 hK (c2 n' outs r v H2 B2 F2 G2 c), fun n' C ns ds d H2 B2 hX c => ?_⟩
  obtain ⟨G', a3, ed⟩ := c3 n' ns ds d H2 B2 c
  have a5 : AtB S.Z S.E n' Γ1 (Δ ++ []) σ (vs ++ []) H2 B2 F G' := by rw [List.append_nil, List.append_nil]; exact a3
  obtain ⟨G'', _, a6⟩ := a5.pop (a3.tm.len)
  have eG : G'' = [] := a6.tm.2
  rw [eG] at a6
  exact S.xo n' Γ1 C ns ds d σ H2 B2 F a6 ed hX
/-- o.m(e, ..), o frozen -/
theorem he_meth {o e : Expr} {es : List Expr} {m : Str} {C : Addr} {k : Nat} {R : PSpec} {ps : List Str} {pl : Sem Bool} (O : OkM S.X.prog S.X.w S.X.K S.X.mg S.X.base S.Z k C m ps (pureSp R)) (c : Cls S.X.K C) (hr : Room k S.X.A)
    (h : HE S o n Γ fun n1 Γ1 r => ∃ ns ds, r = .frz (.obj C ns ds) ∧ (ns.zip ds).lookup m = none ∧ HA S (e :: es) n1 Γ1 fun n2 Γ2 rs => rs.length + 1 = ps.length ∧ R (.obj C ns ds :: rs.map OT.d) n2 (fun n' r => K n' Γ2 r) fun n' C ns ds => S.XP n' Γ2 C ns ds)
    (hst : starEach (e :: es) S.X.env = (false, eval e S.X.env) :: starEach es S.X.env := by rfl) (hpl : (backTo pos (starEach es S.X.env)).any (·.1) = false := by rfl)
    (ht : eval (.Call (.Attribute o m apos) (e :: es) [] pos) S.X.env = (do
      let ov ← eval o S.X.env
      standAt apos.atName
      let (f, first) ← holding [ov] (getMethod ov m pl)
      callWith pos f first (backTo pos (starEach (e :: es) S.X.env)) (backToKw pos (keywordEach [] S.X.env))) := by rfl) : HE S (.Call (.Attribute o m apos) (e :: es) [] pos) n Γ K := by
  obtain ⟨f, fd, o1, o2, o3⟩ := O
  intro Δ σ vs H Q at0 q
  refine ⟨_, pe_methAt pe_c c o1 o3 hr o2 (fun σ => passAt S.tk σ) pa_c hst hpl ht, h Δ σ vs H _ at0 fun n1 Γ1 r v H1 ⟨ns, ds, hr, hl, ha⟩ a1 => ?_⟩
  subst hr
  obtain ⟨B0, hB0, a, dx, xs, rfl, e1, e2, e3⟩ := At.val a1
  refine ⟨a, dx, _, rfl, hB0 _ _ e1, lookup_rp e3.len.symm hl, ha _ σ _ H1 _ a1 fun n2 Γ2 rs ys H2 ⟨hl2, hk⟩ hy a2 => ?_⟩
  obtain ⟨B, F, G, a3⟩ := At.frzs a2 hy
  obtain ⟨G', a4⟩ := a3.rot (by rw [List.length_map]; exact hy)
  obtain ⟨G1, c1, c2, c3⟩ := AtB.call (rs := .frz (.obj C ns ds) :: rs.map fun r => .frz r.d) (xs := .ref a :: ys) a4 (by simp [hy])
  refine ⟨n2, _, B, G1, fun n' outs r => K n' Γ2 r, fun n' C ns ds => S.XP n' Γ2 C ns ds, by simp [hl2], c1, ⟨.obj C ns ds :: rs.map OT.d, by rw [List.map_cons, List.map_map]; rfl, hk⟩, fun n' outs r v H2 B2 F2 G2 hK c => q n' Γ2 r v H2 hK (c2 n' outs r v H2 B2 F2 G2 c), fun n' C ns ds d H2 B2 hX c => ?_⟩
  obtain ⟨G', a3, ed⟩ := c3 n' ns ds d H2 B2 c
  have a5 : AtB S.Z S.E n' Γ2 (Δ ++ []) σ (vs ++ []) H2 B2 F G' := by rw [List.append_nil, List.append_nil]; exact a3
  obtain ⟨G'', _, a6⟩ := a5.pop (a3.tm.len)
  have eG : G'' = [] := a6.tm.2
  rw [eG] at a6
  exact S.xo n' Γ2 C ns ds d σ H2 B2 F a6 ed hX

/-! ### objects are made -/
def OkI (P : Program) (w : World) (K : PySem.W.Frag) (mg : Str → Option Value) (base : Heap) (Z : Wd) (k : Nat) (x : Str) (C : Addr) (ps : List Str) (sp : FSpec) : Prop :=
  ∃ f fd, mg x = some (.ref C) ∧ Mk K C f ∧ Binds K fd ps [] ∧ FnOk P w K mg base (L2.CX P w) k f fd ps (SpD Z ps.length sp)
theorem AtB.newO {Z : Wd} {E : Ent} {Δ : List OT} {σ : L2.St} {vs : List V} {H B : Hp} {F G : List Addr} {C x dx : Addr} (h : AtB Z E n Γ Δ σ vs H B F G) (hx : H x = none) (hdx : H dx = none) (hne : dx ≠ x) :
    AtB Z E n Γ (.oo C [] [] :: Δ) σ (.ref x :: vs) (upd (upd H dx (.own x)) x (.ins C dx [])) B F ([x, dx] ++ G) := by
  have hx' : (upd H dx (.own x)) x = none := by rw [upd_ne (Ne.symm hne)]; exact hx
  have g1 := Grow.own (o := .own x) h.evo.sub hdx
  have g := g1.trans (Grow.own (o := .ins C dx []) g1.sub hx')
  refine h.push (G1 := [x, dx]) g ⟨x, dx, [], [], rfl, rfl, upd_same, by rw [upd_ne hne]; exact upd_same, rfl, rfl, rfl⟩ (fun a ha => ?_) fun a => ?_
  · have := List.count_pos_iff.mp ha
    have : a = x ∨ a = dx := by simpa using this
    rcases this with z | z <;> subst z
    · exact ⟨hx, fresh_back h.evo.sub hx⟩
    · exact ⟨hdx, fresh_back h.evo.sub hdx⟩
  · rw [List.count_cons, List.count_cons, List.count_nil]
    by_cases z : x = a
    · subst z
      simp [hne]
    · have : (x == a) = false := by simpa using z
      simp [this]
      split <;> omega
theorem he_make {e : Expr} {es : List Expr} {x : Str} {C : Addr} {k : Nat} {sp : FSpec} {ps : List Str} (O : OkI S.X.prog S.X.w S.X.K S.X.mg S.X.base S.Z k x C ps sp) (hr : Room (k + 1) S.X.A)
    (h : HA S (e :: es) n Γ fun n1 Γ1 rs => rs.length + 1 = ps.length ∧ sp (.oo C [] [] :: rs.map fun r => .frz r.d) n1 (fun n' outs r => r = .frz .non ∧ ∃ t' rest, outs = t' :: rest ∧ K n' Γ1 t') fun n' C ns ds => S.XP n' Γ1 C ns ds)
    (hg : Gl S.X x := by rfl) (hdb : (x == ("__debug__" : Str)) = false := by decide) (he : starEach (e :: es) S.X.env = (false, eval e S.X.env) :: starEach es S.X.env := by rfl) (hpl : (backTo pos (starEach es S.X.env)).any (·.1) = false := by rfl) :
    HE S (.Call (.Name x p) (e :: es) [] pos) n Γ K := by
  obtain ⟨f, fd, o1, o2, o3, o4⟩ := O
  intro Δ σ vs H Q at0 q
  refine ⟨_, pe_makeAt o2 o4 hr hg o1 o3 (fun σ => passAt S.tk σ) pa_c hdb he hpl, h Δ σ vs H _ at0 fun n1 Γ1 rs ys H1 ⟨hl, hk⟩ hy a1 a dx ha hdx hne => ?_⟩
  obtain ⟨B, F, G, a2⟩ := At.frzs a1 hy
  have a3 := AtB.newO (C := C) a2 ha hdx hne
  obtain ⟨G1, c1, c2, c3⟩ := AtB.callO (rs := .oo C [] [] :: rs.map fun r => .frz r.d) (xs := .ref a :: ys) a3 (by simp [hy])
  refine ⟨n1, _, B, G1, _, _, by simp [hl], c1, hk, fun n' outs r v H2 B2 F2 G2 ⟨hr, t', rest, ho, hK⟩ c => ?_, fun n' C ns ds d H2 B2 hX c => ?_⟩
  · subst hr ho
    have a4 := c2 n' _ _ v H2 B2 F2 G2 c
    obtain ⟨B0, _, e0⟩ := At.val a4
    have e0 : v = .non := e0
    have a5 : DL.At S.Z S.E n' Γ1 (t' :: (rest ++ Δ)) σ (.ref a :: (ys ++ vs)) H2 := At.pop a4
    have hlen : ys.length = rest.length := by
      have := c.os.len
      simpa using this
    exact ⟨e0, q n' Γ1 t' (.ref a) H2 hK (At.drop a5 hlen)⟩
  · obtain ⟨G', a3, ed⟩ := c3 n' ns ds d H2 B2 c
    have a5 : AtB S.Z S.E n' Γ1 (Δ ++ []) σ (vs ++ []) H2 B2 F G' := by rw [List.append_nil, List.append_nil]; exact a3
    obtain ⟨G'', _, a6⟩ := a5.pop (a3.tm.len)
    have eG : G'' = [] := a6.tm.2
    rw [eG] at a6
    exact S.xo n' Γ1 C ns ds d σ H2 B2 F a6 ed hX

/-! ### own exceptions are raised -/
/-- what __init__(self, y): self.f = y does to the exception that is being made -/
def spO (K : PySem.W.Frag) (f : Str) : Sp := fun vs H Q _ => ∃ a C y, vs = [.ref a, y] ∧ OexC K C ∧ PySem.W.findIn K (.ref C) f = some none ∧ H a = some (exo a C none) ∧ ∀ dx, H dx = none → dx ≠ a → Q .non (upd (upd H dx (exd dx [(f, y)])) a (exo a C (some dx)))
theorem ok_excI {P : Program} {w : World} {K : PySem.W.Frag} {mg : Str → Option Value} {base : Heap} {f y qual : Str} {params : Arguments} {scope : Scope} {fI : Addr} {fd : FuncData} {p1 p2 p3 p4 : Pos}
    (F : FunD K "__init__" qual params [.Assign [.Attribute (.Name "self" p1) f p2] (.Name y p3) p4] scope [] [] fI fd) (Sc : FnScope ["self", y] ["self", y] scope) (hv : Vis scope "self") (hy : Vis scope y)
    (hd : (y == ("__debug__" : Str)) = false := by decide) (hcd : (y == ("__classdict__" : Str)) = false := by decide) : FnOk P w K mg base (L2.CX P w) 1 fI fd ["self", y] (spO K f) := by
  refine F.ok Sc (fun vs H Q E h => ?_) (fun cdv A outer s H vs Q E hr h => ?_)
  · obtain ⟨a, C, z, rfl, _⟩ := h
    rfl
  · obtain ⟨a, C, z, rfl, h1, h2, h3, h4⟩ := h
    refine ⟨_, pss_one (ps_ost (pe_var (i := 0) rfl hv) (pe_var (i := 1) rfl hy hd hcd) rfl), z, rfl, .ref a, rfl, a, C, rfl, h1, h2, .inl ⟨h3, fun dx e1 e2 => h4 dx e1 e2⟩⟩
def OkX (P : Program) (w : World) (K : PySem.W.Frag) (mg : Str → Option Value) (base : Heap) (x : Str) (C : Addr) (f : Str) : Prop :=
  ∃ fI fd y, mg x = some (.ref C) ∧ OexC K C ∧ PySem.W.findIn K (.ref C) f = some none ∧ PySem.W.findIn K (.ref C) "__init__" = some (some (.ref fI)) ∧ PySem.W.typeIn K (.ref fI) = some (.type "function") ∧ Binds K fd ["self", y] [] ∧ FnOk P w K mg base (L2.CX P w) 1 fI fd ["self", y] (spO K f)
theorem hs_raise {x f : Str} {C : Addr} {e : Expr} {p' : Pos} (O : OkX S.X.prog S.X.w S.X.K S.X.mg S.X.base x C f) (hr : Room 2 S.X.A) (h : HE S e n Γ fun n1 Γ1 r => S.XP n1 Γ1 C [f] [r.d]) (hg : Gl S.X x := by rfl) (hc : S.X.calm = true := by rfl)
    (hdb : (x == ("__debug__" : Str)) = false := by decide) (hs : starEach [e] S.X.env = (false, eval e S.X.env) :: starEach [] S.X.env := by rfl) (hpl : (backTo p' (starEach [] S.X.env)).any (·.1) = false := by rfl) :
    HS S (.Raise (some (.Call (.Name x p) [e] [] p')) none pos) n Γ P := by
  obtain ⟨fI, fd, y, o1, o2, o3, o4, o5, o6, o7⟩ := O
  intro Δ σ vs H D at0 m
  refine ⟨_, ps_raise hc S.tk (pmk_oex o2 o4 o5 o7 hr o6 .nil (passes_call (W := fun _ _ _ _ => False) takes_none5 (fun _ _ _ _ h => h)) hg o1 (pa_cons pe_c pa_nil hs) hdb hs hpl), ?_⟩
  refine h Δ σ vs H _ at0 fun n1 Γ1 r v H1 hk a1 => ⟨by show (1 : Nat) ≤ 1000; decide, fun a ha => ⟨a, C, v, rfl, o2, o3, upd_same, fun dx hdx hne => ?_⟩⟩
  have hdx : H1 dx = none := by rw [upd_ne hne] at hdx; exact hdx
  refine ⟨rfl, dx, [(f, v)], upd_same, by rw [upd_ne hne]; exact upd_same, hdx, ?_⟩
  have eH : upd (del (upd (upd (upd H1 a (exo a C none)) dx (exd dx [(f, v)])) a (exo a C (some dx))) a) dx (.xd [(f, v)]) = upd H1 dx (.xd [(f, v)]) := by
    funext b
    by_cases z : b = dx
    · subst z; rw [upd_same, upd_same]
    · rw [upd_ne z, upd_ne z]
      by_cases y : b = a
      · subst y; rw [del_same, ha]
      · rw [del_ne y, upd_ne y, upd_ne z, upd_ne y]
  show S.W (.ref C) (some dx) σ _
  rw [eH]
  obtain ⟨B, F, G, k1, k2⟩ := At.open1 (At.frz1 a1)
  have a5 : AtB S.Z S.E n1 Γ1 (Δ ++ []) σ (vs ++ []) H1 B F G := by rw [List.append_nil, List.append_nil]; exact k1
  obtain ⟨G', _, a6⟩ := a5.pop (k1.tm.len)
  have eG : G' = [] := a6.tm.2
  rw [eG] at a6
  refine S.xo n1 Γ1 C [f] [r.d] (some dx) σ _ B F (a6.grow (Grow.own k1.evo.sub hdx)) (.inr ⟨dx, [v], rfl, upd_same, rfl, RpL.one k2⟩) hk

/-! ### isinstance of an own class -/
structure OwnC (K : PySem.W.Frag) (C : Addr) : Prop where
  ins : C8.InsC K C
  oth : ∀ T ∈ seven, PySem.W.kitOne K (.type T) (.ref C) = some false
def isC (C : Addr) : D → Bool
  | .obj C' _ _ => decide (C' = C)
  | _ => false
theorem he_cls {x : Str} {C : Addr} (hm : S.X.mg x = some (.ref C)) (k : K n Γ (.frz (.opq (.ref C)))) (hg : Gl S.X x := by rfl) (hd : (x == ("__debug__" : Str)) = false := by decide) : HE S (.Name x pos) n Γ K :=
  he_con (v := .ref C) (pe_glob hg hm rfl hd) (fun _ => by exact rfl) k
theorem ty_seven {d : D} {t : String} (h : tyD d = some t) : t ∈ seven := by
  cases d <;> cases h <;> decide
theorem hf_isC {d : D} {C : Addr} (o : OwnC S.X.K C) (hd : plain d = true ∨ ∃ ns ds, d = .obj C ns ds) (k : K n Γ (.frz (.bl (isC C d)))) : HF S (.builtin "isinstance") [.frz d, .frz (.opq (.ref C))] n Γ K := by
  intro Δ σ xs vs H Q hl a q
  obtain ⟨x, y, rfl⟩ := two_of hl
  obtain ⟨B, h1, h2⟩ := At.val a
  obtain ⟨B', h3, h4⟩ := At.val (At.pop a)
  have h4 : y = .ref C := h4
  subst h4
  have fin := q n Γ _ (.bl (isC C d)) H k ((At.pop (At.pop a)).flat fun _ => by exact rfl)
  rcases hd with hd | ⟨ns, ds, e⟩
  · obtain ⟨t, ht⟩ := Option.isSome_iff_exists.mp hd
    have eb : isC C d = false := by
      cases d <;> first | rfl | cases hd
    rw [eb] at fin
    exact ⟨_, call_isi, x, .ref C, .type t, .ref C, false, rfl, .own C, ty_of h1 h2 ht, o.oth t (ty_seven ht), fin⟩
  · subst e
    have eb : isC C (.obj C ns ds) = true := decide_eq_true rfl
    rw [eb] at fin
    obtain ⟨b, dx, zs, rfl, e1, e2, e3⟩ := h2
    exact ⟨_, C8.call_isC o.ins, b, dx, _, rfl, h1 _ _ e1, fin⟩
end
end DL

set_option Elab.async false
set_option linter.all false
set_option maxRecDepth 100000
/-! DLT: several except clauses, each with or without a name. -/
namespace DLT
open PySem PySem.Spec PyProof.Rows L2
abbrev Hd := Option Nat × Value × (Addr → Value → Option Addr → TS)
/-- the ends behind a clause whose name goes -/
def goes (D : Ends) : Option Nat → Ends
  | none => D
  | some i => { nx := fun σ' H' => D.nx (σ'.set i none) H', rt := D.rt, bk := fun σ' H' => D.bk (σ'.set i none) H', ct := fun σ' H' => D.ct (σ'.set i none) H' }
def named (σ : L2.St) (a : Addr) : Option Nat → L2.St
  | none => σ
  | some i => σ.set i (some (.ref a))
/-- what the clauses wish of an exception of the body, one after the other -/
def wMix (K : PySem.W.Frag) (Wout : WX) (D : Ends) : List Hd → WX
  | [] => Wout
  | (o, c, ts) :: r => fun cls d σ H => ∃ b, PySem.W.exmOne K cls c = some b ∧ (b = true → ∀ a, H a = none → ts a cls d (goes D o) (named σ a o) H) ∧ (b = false → wMix K Wout D r cls d σ H)
def nameOk (X : Cx) : Option Nat → Option Str → Prop
  | none, none => True
  | some i, some n => X.N[i]? = some n ∧ X.env.kindOf n = some .local
  | _, _ => False
inductive HdsMix (X : Cx) : List ExceptHandler → List Hd → Prop
  | nil : HdsMix X [] []
  | cons {x : Str} {c : Value} {o : Option Nat} {on : Option Str} {ts : Addr → Value → Option Addr → TS} {b₀ : Stmt} {suite : List Stmt} {np pos' : Pos} {hds : List ExceptHandler} {l : List Hd} (hc : Names X x c) (ho : nameOk X o on)
      (hsu : ∀ (a : Addr) (oe : Obj) (cls : Value) (d : Option Addr) (pn : List (Addr × Obj)), Zc cls d oe → (∃ vs, oe.data = .fields vs) → PSs (X.suite a ((a, oe) :: pn)) (b₀ :: suite) (ts a cls d)) (r : HdsMix X hds l) :
      HdsMix X (.ExceptHandler (some (.Name x np)) on (b₀ :: suite) pos' :: hds) ((o, c, ts) :: l)
section
variable {X : Cx} {body : List Stmt} {h₀ : ExceptHandler} {hds : List ExceptHandler} {l : List Hd} {pos : Pos} {tb : WX → TS} {Wout : WX}
theorem ps_try_mix (hN : X.N.Nodup) (hs : X.stack = X.env :: X.outer) (hf : X.env.frame = some X.env.locals) (tk : Takes X Wout)
    (hb : ∀ (W : WX) (pn : List (Addr × Obj)) (xe : Value → Shared → Prop), Takes (X.tr pn xe) W → PassesOwn (model X.prog X.w) X.A X.env xe → PSs (X.tr pn xe) body (tb W))
    (hh : HdsMix X (h₀ :: hds) l) : PS X (.Try body (h₀ :: hds) [] [] pos) (fun D σ H => tb (wMix X.K Wout D l) D σ H) := by
  refine ⟨fun pins s σ H D I h => ?_⟩
  have ok := I.ok
  have hfr : X.A.frames = some (X.env :: X.outer) := by rw [ok.frames, hs]
  refine wpAny_Try_except ?_
  refine wpAny_mono ((hb (wMix X.K Wout D l) (X.pn ++ pins) (fun e s₁ => wpAny (model X.prog X.w) X.A (noteFrame e X.env) (fun _ s₂ => wpAny (model X.prog X.w) X.A (setFlight e none) (fun _ s₃ =>
    wpAny (model X.prog X.w) X.A (handleBy e X.env (h₀ :: hds)) (SP X pins D) X.xe s₃) X.xe s₂) X.xe s₁) (fun u s' xx => ?_) PassesOwn.looking).run [] s σ H D (I.toTry _) h) (fun f s1 hsp => ?_) (fun e s1 he => he)
  · -- the catch
    obtain ⟨a, B, sI, pins', σ', H', cls, d, rfl, J', nb, up, sky, na, os, ag, w⟩ := xx
    have J : Inv X pins σ' H' sI := J'.ofTry ok
    have sky' : Sky B (X.env :: X.outer) a (Zc cls d) X.env.locals s'.heap := by rw [← hs]; exact sky
    show wpAny (model X.prog X.w) X.A (noteFrame (.ref a) X.env) _ _ _
    refine Sky.land Zc.steady hfr hf sky' fun h3 fl3 up3 => ?_
    have J3 : Inv X pins σ' H' { s' with heap := h3 } := J.landed nb fl3.1 (up.trans up3) os ag
    obtain ⟨oe3, vs3, he3, hz3, hd3⟩ := fl3.there
    have notFr : ∀ {h : Heap} {o : Obj} {vs : Array Value}, h.FunFrames B (X.env :: X.outer) → h.get? a = some o → o.data = .fields vs → a ∉ frs (X.env :: X.outer) := fun {h o vs} ff e dd hm => by
      obtain ⟨_, o', e', hnf⟩ := ff.mem hm
      rw [e] at e'; cases e'
      exact hnf _ dd
    have nfr := notFr fl3.2.2.1 he3 hd3
    have nL : a ≠ X.env.locals := fun z => nfr (List.mem_filterMap.mpr ⟨X.env, List.mem_cons_self, by rw [hf, z]⟩)
    have nF : a ∉ X.fs := fun hm => by
      obtain ⟨e, he, q⟩ := List.mem_filterMap.mp hm
      exact nfr (List.mem_filterMap.mpr ⟨e, List.mem_cons_of_mem _ he, q⟩)
    have S3 := J3.suite he3 hd3 na nL nF
    have go : ∀ {hds' : List ExceptHandler} {l' : List Hd}, HdsMix X hds' l' → wMix X.K Wout D l' cls d σ' H' →
        wpAny (model X.prog X.w) X.A (handleBy (.ref a) X.env hds') (SP X pins D) X.xe { s' with heap := h3 } := by
      intro hds' l' hk
      induction hk with
      | nil =>
        intro w
        refine wpAny_handleBy_nil ?_
        obtain ⟨k1, k2, k3, oe, vs, T, oT, ts', he, hz, hd, h1, hr⟩ := id fl3
        unfold PySem.passOn
        refine wpAny_bind (wpAny_field he hd h1 ?_)
        rw [if_neg (show ¬ ((Value.ref T == Value.none) = true) from by simp)]
        have fin : wpAny (model X.prog X.w) X.A (setFlight (.ref a) X.env.frame) (fun _ s4 => wpAny (model X.prog X.w) X.A (throw (.ref a) : Sem Flow) (SP X pins D) X.xe s4) X.xe { s' with heap := h3 } := by
          rw [hf]
          refine HandSPX.setFlight_upZ fl3 fun h4 hh4 up4 => wpAny_throw (tk _ _ ?_)
          exact ⟨a, B, sI, pins, σ', H', cls, d, rfl, J, nb, (up.trans up3).trans up4, .inr (.inr (by rw [hs]; exact hh4)), na, os, ag, w⟩
        first
          | exact wpAny_bind (wpAny_pure (wpAny_bind fin))
          | exact wpAny_bind fin
      | @cons x c o on ts b₀ suite np pos' hds2 l2 hc ho hsu r ih =>
        intro w
        obtain ⟨b, hb1, hyes, hno⟩ := w
        refine wpAny_handleBy_cons (codeAny_handlers_test ?_) (by intro q; cases q)
        have LT : PySem.W.Looks (model X.prog X.w) h3 (typeOf (.ref a)) cls := fun A Q E s k q => wpAny_typeOf_ref (k _ _ he3) (by rw [hz3.1]; exact q)
        have LM := PySem.W.exm_one (M := model X.prog X.w) (J3.kIn) LT hb1
        have test : ∀ {Q : Value → Shared → Prop} {E : Value → Shared → Prop}, Q c { s' with heap := h3 } → wpAny (model X.prog X.w) (X.A.mark (some (.ref a))) (eval (.Name x np) X.env) Q E { s' with heap := h3 } := fun {Q E} q => by
          obtain ⟨hg, hdbg, hm | ⟨hm, hv, hnn⟩⟩ := hc
          · exact ld_glob (X := X.suite a ((a, oe3) :: (X.pn ++ pins))) S3 hg hm q hdbg
          · exact ld_blt (X := X.suite a ((a, oe3) :: (X.pn ++ pins))) S3 hg hm hv q hnn hdbg
        refine test (LM.here ?_)
        cases b with
        | true =>
          cases o with
          | none =>
            cases on with
            | some _ => exact ho.elim
            | none =>
              refine codeAny_handlers_suite ?_
              refine HandSPX.lands_againZ fl3 fun h4 fl4 up4 => ?_
              have J4 : Inv X pins σ' H' { s' with heap := h4 } := J.landed nb fl4.1 ((up.trans up3).trans up4) os ag
              obtain ⟨oe4, vs4, he4, hz4, hd4⟩ := fl4.there
              have S4 := J4.suite he4 hd4 na nL nF
              refine wpAny_mono ((hsu a oe4 cls d (X.pn ++ pins) hz4 ⟨_, hd4⟩).run [] _ _ H' _ S4 (hyes rfl a na)) (fun f s6 hsp => ?_) (fun _ _ z => False.elim z)
              cases f with
              | next =>
                obtain ⟨σ6, H6, S6, q6⟩ := hsp
                exact ⟨_, _, S6.unsuite ok, q6⟩
              | brk =>
                obtain ⟨σ6, H6, S6, q6⟩ := hsp
                exact ⟨_, _, S6.unsuite ok, q6⟩
              | cont =>
                obtain ⟨σ6, H6, S6, q6⟩ := hsp
                exact ⟨_, _, S6.unsuite ok, q6⟩
              | ret u =>
                obtain ⟨v6, σ6, H6, S6, r6, q6⟩ := hsp
                exact ⟨_, _, _, S6.unsuite ok, r6, q6⟩
          | some i =>
            cases on with
            | none => exact ho.elim
            | some n =>
              obtain ⟨hi, hln⟩ := ho
              refine codeAny_handlers_suite_as ?_
              refine HandSPX.lands_againZ fl3 fun h4 fl4 up4 => ?_
              have J4 : Inv X pins σ' H' { s' with heap := h4 } := J.landed nb fl4.1 ((up.trans up3).trans up4) os ag
              obtain ⟨oe4, vs4, he4, hz4, hd4⟩ := fl4.there
              have S4 := J4.suite he4 hd4 na nL nF
              refine store_ok (X := X.suite a ((a, oe4) :: (X.pn ++ pins))) (v := .ref a) S4 hN hi (.inl hln) rfl (fun s5 S5 => ?_) (.inr hln)
              refine wpAny_mono ((hsu a oe4 cls d (X.pn ++ pins) hz4 ⟨_, hd4⟩).run [] s5 _ H' _ S5 (hyes rfl a na)) (fun f s6 hsp => ?_) (fun _ _ z => False.elim z)
              have end_ : ∀ {σ6 : L2.St} {H6 : Hp} {Q : Shared → Prop}, Inv (X.suite a ((a, oe4) :: (X.pn ++ pins))) [] σ6 H6 s6 → (∀ s7, Inv X pins (σ6.set i none) H6 s7 → Q s7) →
                  wpAny (model X.prog X.w) X.A (do bindName X.env n .none; unbindBehindTheSuite X.env n pos') (fun _ s7 => Q s7) X.xe s6 := fun {σ6 H6 Q} S6 hq => gone_ok (S6.unsuite ok) hN hi hln hq
              cases f with
              | next =>
                obtain ⟨σ6, H6, S6, q6⟩ := hsp
                exact end_ S6 fun s7 J7 => ⟨_, _, J7, q6⟩
              | brk =>
                obtain ⟨σ6, H6, S6, q6⟩ := hsp
                exact end_ S6 fun s7 J7 => ⟨_, _, J7, q6⟩
              | cont =>
                obtain ⟨σ6, H6, S6, q6⟩ := hsp
                exact end_ S6 fun s7 J7 => ⟨_, _, J7, q6⟩
              | ret u =>
                obtain ⟨v6, σ6, H6, S6, r6, q6⟩ := hsp
                exact end_ S6 fun s7 J7 => ⟨_, _, _, J7, r6, q6⟩
        | false =>
          show wpAny _ X.A (handleBy (.ref a) X.env hds2) _ _ _
          exact ih (hno rfl)
    exact go hh w
  · cases f with
    | next =>
      obtain ⟨σ', H', J', q⟩ := hsp
      exact wpAny_execs_nil ⟨σ', H', J'.ofTry ok, q⟩
    | brk =>
      obtain ⟨σ', H', J', q⟩ := hsp
      exact ⟨σ', H', J'.ofTry ok, q⟩
    | cont =>
      obtain ⟨σ', H', J', q⟩ := hsp
      exact ⟨σ', H', J'.ofTry ok, q⟩
    | ret u =>
      obtain ⟨v, σ', H', J', r, q⟩ := hsp
      exact ⟨v, σ', H', J'.ofTry ok, r, q⟩
end
end DLT

set_option Elab.async false
set_option linter.all false
set_option maxRecDepth 100000
set_option maxHeartbeats 4000000
/-! DLN: frames; try; calls with a lambda. -/
namespace DL
open PySem PySem.Spec PyProof.Rows L2 Evl

/-! ### frozen slots only -/
def onlyF : Slots → Slots
  | [] => []
  | some (.frz d) :: Γ => some (.frz d) :: onlyF Γ
  | _ :: Γ => none :: onlyF Γ
theorem RpS.onlyF {K : PySem.W.Frag} {H B : Hp} : ∀ {Γ : Slots} {σ : L2.St} {F : List Addr}, RpS K H B Γ σ F → RpS K H B (DL.onlyF Γ) σ []
  | [], _, _, h => ⟨h.1, rfl⟩
  | none :: Γ, _, _, ⟨x, σ', e1, e2⟩ => ⟨x, σ', e1, RpS.onlyF e2⟩
  | some (.frz d) :: Γ, _, _, ⟨v, σ', F1, F2, e1, e2, e3, e4⟩ => ⟨v, σ', [], [], e1, rfl, ⟨rfl, e3.2⟩, RpS.onlyF e4⟩
  | some (.ol ts) :: Γ, _, _, ⟨v, σ', F1, F2, e1, e2, e3, e4⟩ => ⟨some v, σ', e1, RpS.onlyF e4⟩
  | some (.ot ts) :: Γ, _, _, ⟨v, σ', F1, F2, e1, e2, e3, e4⟩ => ⟨some v, σ', e1, RpS.onlyF e4⟩
  | some (.od ks ts) :: Γ, _, _, ⟨v, σ', F1, F2, e1, e2, e3, e4⟩ => ⟨some v, σ', e1, RpS.onlyF e4⟩
  | some (.oo C ns ts) :: Γ, _, _, ⟨v, σ', F1, F2, e1, e2, e3, e4⟩ => ⟨some v, σ', e1, RpS.onlyF e4⟩
theorem RpS.nones {K : PySem.W.Frag} {H B : Hp} : ∀ (σ : L2.St), RpS K H B (List.replicate σ.length none) σ []
  | [] => ⟨rfl, rfl⟩
  | x :: σ => ⟨x, σ, rfl, RpS.nones σ⟩
section
variable {Z : Wd} {E : Ent} {n n' : Nat} {Γ Γ' : Slots} {Δ Δ' : List OT} {σ σ' : L2.St} {vs vs' : List V} {H B H2 B2 : Hp} {F G F2 G2 : List Addr}
/-- the state from which some slots go on, the rest framed -/
def Ent.cut (E : Ent) (H B : Hp) (F : List Addr) : Ent := ⟨H, B, F, E.P⟩
theorem AtB.cut (h : AtB Z E n Γ Δ σ vs H B F G) {F0 : List Addr} (hs : RpS Z.K H B Γ' σ F0) (hc : ∀ a, F0.count a ≤ F.count a) : AtB Z (E.cut H B F0) n Γ' [] σ [] H B F0 [] :=
  ⟨⟨fun _ _ e _ _ _ _ => e, fun a ps e => ⟨ps, e⟩, Ex.refl _, fun a h1 h2 => absurd h1 h2, h.evo.sub⟩, hs, ⟨rfl, rfl⟩, fun a => by have := h.nd a; have := hc a; simp; omega, fun a ha => by
    have ha : 0 < F0.count a := by simpa using ha
    obtain ⟨q1, q2, q3⟩ := h.out a (by have := hc a; omega)
    exact ⟨q1, .inr (List.count_pos_iff.mp ha), q3⟩, h.str, h.bst, h.tab, h.pin⟩
/-- the way on -/
theorem AtB.cutC (h : AtB Z E n Γ Δ σ vs H B F G) {F0 : List Addr} (hc : ∀ a, F0.count a ≤ F.count a) (k : AtB Z (E.cut H B F0) n' Γ' Δ' σ' vs' H2 B2 F2 G2) : AtB Z E n' Γ' Δ' σ' vs' H2 B2 F2 G2 := by
  have inF : ∀ a, a ∈ F0 → 0 < F.count a + G.count a := fun a ha => by have := List.count_pos_iff.mpr ha; have := hc a; omega
  refine ⟨⟨fun a o e hm h1 h2 h3 => k.evo.ex a o (h.evo.ex a o e hm h1 h2 h3) (fun z => ?_) h1 h2 h3, fun a ps e => ?_, h.evo.exB.trans k.evo.exB, fun a h1 h2 => ?_, k.evo.sub⟩, k.sl, k.tm, k.nd, fun a ha => ?_, k.str, k.bst, k.tab, k.pin⟩
  · rcases (h.out a (inF a z)).2.1 with y | y
    · rw [e] at y; cases y
    · exact hm y
  · obtain ⟨ps', q⟩ := h.evo.tb a ps e
    exact k.evo.tb a ps' q
  · cases q : B a with
    | none =>
      rcases k.evo.new a q h2 with y | y
      · exact h.fresh y
      · exact (h.out a (inF a y)).2.1
    | some o => exact h.evo.new a h1 (by rw [q]; exact fun z => by cases z)
  · obtain ⟨q1, q2, q3⟩ := k.out a ha
    refine ⟨q1, ?_, q3⟩
    rcases q2 with y | y
    · exact h.fresh y
    · exact (h.out a (inF a y)).2.1
/-- what was framed comes back: the temporaries -/
theorem AtB.cutT (h : AtB Z E n Γ Δ σ vs H B F G) {F0 : List Addr} (hc : ∀ a, F0.count a ≤ F.count a) (k : AtB Z (E.cut H B F0) n' Γ' Δ' σ' vs' H2 B2 F2 G2) : AtB Z E n' Γ' (Δ' ++ Δ) σ' (vs' ++ vs) H2 B2 F2 (G2 ++ G) := by
  have c := h.cutC hc k
  have keep : ∀ a, 0 < G.count a → ∀ o, H a = some o → H2 a = some o := fun a ha o q => by
    obtain ⟨_, _, h3, h4⟩ := h.out a (by omega)
    obtain ⟨u, e1, e2⟩ := h.thereF (a := a) (by omega)
    rw [q] at e1
    cases e1
    exact k.evo.ex a o q (fun z => by
      have : 0 < F0.count a := List.count_pos_iff.mpr z
      have := hc a
      have := h.nd a
      omega) h3 h4 e2
  have apart : ∀ a, 0 < G.count a → F2.count a + G2.count a = 0 := fun a ha => by
    cases z : F2.count a + G2.count a with
    | zero => rfl
    | succ m =>
      obtain ⟨q1, q2, _⟩ := k.out a (by omega)
      rcases q2 with y | y
      · obtain ⟨u, e, _⟩ := h.thereF (a := a) (by omega)
        have y : H a = none := y
        rw [y] at e; cases e
      · have : 0 < F0.count a := List.count_pos_iff.mpr y
        have := hc a
        have := h.nd a
        omega
  refine ⟨c.evo, c.sl, RpOs.app c.tm (RpOs.mono k.evo.exB (fun a ha => keep a (List.count_pos_iff.mpr ha)) h.tm), fun a => ?_, fun a ha => ?_, c.str, c.bst, c.tab, c.pin⟩
  · have := c.nd a
    have := h.nd a
    rw [List.count_append]
    by_cases z : 0 < G.count a
    · have := apart a z
      omega
    · omega
  · rw [List.count_append] at ha
    by_cases z : 0 < G.count a
    · obtain ⟨q1, q2, q3⟩ := h.out a (by omega)
      refine ⟨?_, q2, q3⟩
      cases y : B2 a with
      | none => rfl
      | some o =>
        rcases k.evo.new a q1 (by rw [y]; exact fun z => by cases z) with w | w
        · obtain ⟨u, e, _⟩ := h.thereF (a := a) (by omega)
          have w : H a = none := w
          rw [w] at e; cases e
        · have : 0 < F0.count a := List.count_pos_iff.mpr w
          have := hc a
          have := h.nd a
          omega
    · exact c.out a (by omega)
/-- what was framed comes back: the slots too, nothing of them was handed on -/
theorem AtB.cutS (h : AtB Z E n Γ Δ σ vs H B F G) (k : AtB Z (E.cut H B []) n' Γ' Δ' σ' vs' H2 B2 F2 G2) : ∃ G3, AtB Z E n' Γ (Δ' ++ Δ) σ (vs' ++ vs) H2 B2 F G3 := by
  have c := h.cutC (F0 := []) (fun a => by simp) k
  have keep : ∀ a, 0 < F.count a + G.count a → ∀ o, H a = some o → H2 a = some o := fun a ha o q => by
    obtain ⟨_, _, h3, h4⟩ := h.out a ha
    obtain ⟨u, e1, e2⟩ := h.thereF ha
    rw [q] at e1
    cases e1
    exact k.evo.ex a o q (fun z => by cases z) h3 h4 e2
  have apart : ∀ a, 0 < F.count a + G.count a → F2.count a + G2.count a = 0 := fun a ha => by
    cases z : F2.count a + G2.count a with
    | zero => rfl
    | succ m =>
      obtain ⟨q1, q2, _⟩ := k.out a (by omega)
      rcases q2 with y | y
      · obtain ⟨u, e, _⟩ := h.thereF ha
        have y : H a = none := y
        rw [y] at e; cases e
      · cases y
  have nB : ∀ a, 0 < F.count a + G.count a → B2 a = none := fun a ha => by
    obtain ⟨q1, _⟩ := h.out a ha
    cases y : B2 a with
    | none => rfl
    | some o =>
      rcases k.evo.new a q1 (by rw [y]; exact fun z => by cases z) with w | w
      · obtain ⟨u, e, _⟩ := h.thereF ha
        have w : H a = none := w
        rw [w] at e; cases e
      · cases w
  refine ⟨G2 ++ G, c.evo, RpS.mono k.evo.exB (fun a ha => keep a (by have := List.count_pos_iff.mpr ha; omega)) h.sl, RpOs.app c.tm (RpOs.mono k.evo.exB (fun a ha => keep a (by have := List.count_pos_iff.mpr ha; omega)) h.tm), fun a => ?_, fun a ha => ?_, c.str, c.bst, c.tab, h.pin⟩
  · have := c.nd a
    have := h.nd a
    rw [List.count_append]
    by_cases z : 0 < F.count a + G.count a
    · have := apart a z
      omega
    · omega
  · rw [List.count_append] at ha
    by_cases z : 0 < F.count a + G.count a
    · obtain ⟨q1, q2, q3⟩ := h.out a z
      exact ⟨nB a z, q2, q3⟩
    · exact c.out a (by omega)
end
section
variable {S : Sit} {n : Nat} {Γ : Slots} {K : Nat → Slots → OT → Prop} {KB : Nat → Slots → Bool → Prop} {P : Post} {pos p : Pos}
/-- an expression that sees the frozen slots only -/
theorem he_iso {e : Expr} (h : ∀ E' xo', E'.P = S.E.P → E'.M = [] → HE (S.at E' xo') e n (onlyF Γ) fun n' _ r => K n' Γ r) : HE S e n Γ K := by
  intro Δ σ vs H Q ⟨B, F, G, a⟩ q
  refine h (S.E.cut H B []) (fun n' Γ' C ns ds d σ' H2 B2 F2 a' ex hx => S.xo n' Γ' C ns ds d σ' H2 B2 F2 (a.cutC (fun a => by simp) a') ex hx) rfl rfl [] σ [] H Q ⟨B, [], [], a.cut a.sl.onlyF fun a => by simp⟩ fun n' Γ' r v H2 hk ⟨B2, F2, G2, k⟩ => ?_
  obtain ⟨G3, a3⟩ := a.cutS k
  exact q n' Γ r v H2 hk ⟨B2, F, G3, a3⟩
end

/-! ### try -/
mutual
theorem RpO.noxd {K : PySem.W.Frag} {H B : Hp} : ∀ {t : OT} {v : V} {F : List Addr}, RpO K H B t v F → ∀ a ∈ F, ∀ fs, H a ≠ some (.xd fs)
  | .frz d, _, _, ⟨h1, _⟩, a, ha => by rw [h1] at ha; cases ha
  | .ol ts, _, _, ⟨b, xs, G, e1, e2, e3, e4⟩, a, ha => by
    rw [e2] at ha
    rcases List.mem_cons.mp ha with z | z
    · intro fs; rw [z, e3]; exact fun z => by cases z
    · exact RpOs.noxd e4 a z
  | .ot ts, _, _, ⟨b, xs, G, e1, e2, e3, e4⟩, a, ha => by
    rw [e2] at ha
    rcases List.mem_cons.mp ha with z | z
    · intro fs; rw [z, e3]; exact fun z => by cases z
    · exact RpOs.noxd e4 a z
  | .od ks ts, _, _, ⟨b, xs, G, e1, e2, e3, kk, _, _, q⟩, a, ha => by
    rw [e2] at ha
    rcases List.mem_cons.mp ha with z | z
    · intro fs; rw [z, q]; exact fun z => by cases z
    · exact RpOs.noxd e3 a z
  | .oo C ns ts, _, _, ⟨b, dx, xs, G, e1, e2, e3, e4, e5, e6⟩, a, ha => by
    rw [e2] at ha
    rcases List.mem_cons.mp ha with z | z
    · intro fs; rw [z, e3]; exact fun z => by cases z
    · rcases List.mem_cons.mp z with z | z
      · intro fs; rw [z, e4]; exact fun z => by cases z
      · exact RpOs.noxd e6 a z
theorem RpOs.noxd {K : PySem.W.Frag} {H B : Hp} : ∀ {ts : List OT} {xs : List V} {F : List Addr}, RpOs K H B ts xs F → ∀ a ∈ F, ∀ fs, H a ≠ some (.xd fs)
  | [], _, _, h, a, ha => by rw [h.2] at ha; cases ha
  | t :: ts, _, _, ⟨y, ys, F1, F2, e1, e2, e3, e4⟩, a, ha => by
    rw [e2] at ha
    rcases List.mem_append.mp ha with z | z
    · exact RpO.noxd e3 a z
    · exact RpOs.noxd e4 a z
end
theorem RpS.noxd {K : PySem.W.Frag} {H B : Hp} : ∀ {Γ : Slots} {σ : L2.St} {F : List Addr}, RpS K H B Γ σ F → ∀ a ∈ F, ∀ fs, H a ≠ some (.xd fs)
  | [], _, _, h, a, ha => by rw [h.2] at ha; cases ha
  | none :: Γ, _, _, ⟨x, σ', e1, e2⟩, a, ha => RpS.noxd e2 a ha
  | some t :: Γ, _, _, ⟨v, σ', F1, F2, e1, e2, e3, e4⟩, a, ha => by
    rw [e2] at ha
    rcases List.mem_append.mp ha with z | z
    · exact RpO.noxd e3 a z
    · exact RpS.noxd e4 a z
theorem At.setN {Z : Wd} {E : Ent} {n : Nat} {Γ : Slots} {Δ : List OT} {σ : L2.St} {vs : List V} {H : Hp} {i : Nat} (h : DL.At Z E n Γ Δ σ vs H) (hP : E.P.getD i none = none) : DL.At Z E n (Γ.set i none) Δ (σ.set i none) vs H := by
  obtain ⟨B, F, G, h⟩ := h
  obtain ⟨F', c, h'⟩ := h.sl.setN (i := i)
  exact ⟨B, F', G, h.evo, h', h.tm, fun a => by have := h.nd a; have := c a; omega, fun a ha => h.out a (by have := c a; omega), h.str, h.bst, h.tab, h.pin.set hP⟩
structure HdD where
  o : Option Nat
  C : Addr
  suite : List Stmt
def bSu (X : Cx) (suite : List Stmt) : Addr → Value → Option Addr → TS := fun a cls d D σ H => ∀ (oe : Obj) (pn : List (Addr × Obj)), Zc cls d oe → (∃ vs, oe.data = .fields vs) → cSs (X.suite a ((a, oe) :: pn)) suite D σ H
def hdl (X : Cx) (l : List HdD) : List DLT.Hd := l.map fun h => (h.o, .ref h.C, bSu X h.suite)
theorem mix_nil {X : Cx} : DLT.HdsMix X [] (hdl X []) := .nil
theorem mix_cons {X : Cx} {x : Str} {C : Addr} {o : Option Nat} {on : Option Str} {b₀ : Stmt} {suite : List Stmt} {np pos' : Pos} {hds : List ExceptHandler} {l : List HdD} (hm : X.mg x = some (.ref C)) (r : DLT.HdsMix X hds (hdl X l)) (ho : DLT.nameOk X o on) (hg : Gl X x := by rfl) (hd : (x == ("__debug__" : Str)) = false := by decide) :
    DLT.HdsMix X (.ExceptHandler (some (.Name x np)) on (b₀ :: suite) pos' :: hds) (hdl X (⟨o, C, b₀ :: suite⟩ :: l)) :=
  .cons ⟨hg, hd, .inl hm⟩ ho (fun a oe cls d pn hz hf => ⟨fun pins s σ H D I h => pss_c.run pins s σ H D I (h oe pn hz hf)⟩) r
/-- where an except suite stands -/
def Sit.hnd (S : Sit) (a : Addr) (oe : Obj) (pn : List (Addr × Obj)) (E' : Ent) : Sit :=
  ⟨S.X.suite a ((a, oe) :: pn), S.st, S.cs, S.T, E', fun _ _ _ _ => False, fun _ _ _ _ _ => False, fun u s' ⟨a, B, sI, pins, σ, H, cls, d, e, I, nb, up, sky, na, os, ag, w⟩ => w.elim, fun n Γ C ns ds d σ H B F _ _ h => h.elim, PassesOwn.never⟩
/-- what is known there of the exception -/
structure ExAt (S : Sit) (C : Addr) (ns : List Str) (ds : List D) (a : Addr) (oe : Obj) (E' : Ent) : Prop where
  zc : ∃ d, Zc (.ref C) d oe ∧ (ns = [] ∨ ∃ dd xs, d = some dd ∧ E'.H dd = some (.xd (ns.zip xs)) ∧ ns.length = xs.length ∧ RpL S.X.K E'.B ds xs ∧ dd ∉ E'.M ∧ dd ≠ S.st ∧ dd ≠ S.cs)
  fl : ∃ vs, oe.data = .fields vs
def nmS (Γ : Slots) (a : Addr) : Option Nat → Slots
  | none => Γ
  | some i => Γ.set i (some (.frz (.opq (.ref a))))
def goP (P : Post) : Option Nat → Post
  | none => P
  | some i => { nx := fun n Γ => P.nx n (Γ.set i none), rt := P.rt, bk := fun n Γ => P.bk n (Γ.set i none), ct := fun n Γ => P.ct n (Γ.set i none) }
def nmOk (S : Sit) (Γ : Slots) : Option Nat → Prop
  | none => True
  | some i => i < Γ.length ∧ S.E.P.getD i none = none
def HdOk (S : Sit) (P : Post) : List HdD → Nat → Slots → Addr → List Str → List D → Prop
  | [], n, Γ, C, ns, ds => S.XP n Γ C ns ds
  | h :: l, n, Γ, C, ns, ds => ∃ b, PySem.W.exmOne S.X.K (.ref C) (.ref h.C) = some b ∧ (b = true → nmOk S Γ h.o ∧ ∀ a oe pn E', ExAt S C ns ds a oe E' → E'.P = S.E.P → HSs (S.hnd a oe pn E') h.suite n (nmS Γ a h.o) (goP P h.o)) ∧ (b = false → HdOk S P l n Γ C ns ds)
section
variable {S : Sit} {n : Nat} {Γ : Slots} {K : Nat → Slots → OT → Prop} {KB : Nat → Slots → Bool → Prop} {P : Post} {pos p : Pos}
theorem wMix_ok {Δ : List OT} {vs : List V} {En : Ends} (m : Met S P Δ vs En) {C : Addr} {ns : List Str} {ds : List D} {d : Option Addr} {σ : L2.St} {H B : Hp} {F G : List Addr} (c : AtB S.Z S.E n Γ Δ σ vs H B F G) (ed : ExD S.X.K H B d ns ds)
    (hnil : S.XP n Γ C ns ds → S.W (.ref C) d σ H) : ∀ {l : List HdD}, HdOk S P l n Γ C ns ds → DLT.wMix S.X.K S.W En (hdl S.X l) (.ref C) d σ H
  | [], h => hnil h
  | h :: l, ⟨b, hb, hy, hn⟩ => by
    refine ⟨b, hb, fun hb a ha oe pn hz hf => ?_, fun hb => wMix_ok m c ed hnil (hn hb)⟩
    obtain ⟨hnm, hsu⟩ := hy hb
    obtain ⟨o, C', suite⟩ := h
    -- the name's slot
    obtain ⟨F', G', c1⟩ : ∃ F' G', AtB S.Z S.E n (nmS Γ a o) Δ (DLT.named σ a o) vs H B F' G' := by
      cases o with
      | none => exact ⟨F, G, c⟩
      | some i => exact AtB.store (c.pushV (d := .opq (.ref a)) (v := .ref a) rfl) hnm.1 hnm.2
    have xa : ExAt S C ns ds a oe (S.E.cut H B F') := by
      refine ⟨⟨d, hz, ?_⟩, hf⟩
      rcases ed with ⟨e1, _, _⟩ | ⟨dd, xs, e1, e2, e3, e4⟩
      · exact .inl e1
      · refine .inr ⟨dd, xs, e1, e2, e3, e4, fun z => c1.sl.noxd dd z _ e2, fun z => ?_, fun z => ?_⟩
        · obtain ⟨_, _, _, _, q, _⟩ := c1.str
          rw [z] at e2
          exact absurd (q.symm.trans e2) (fun y => by cases y)
        · obtain ⟨_, _, _, _, _, q, _⟩ := c1.str
          rw [z] at e2
          exact absurd (q.symm.trans e2) (fun y => by cases y)
    have back : ∀ {n3 Γ3 Δ3 σ3 vs3 H3}, DL.At S.Z (S.E.cut H B F') n3 Γ3 Δ3 σ3 vs3 H3 → DL.At S.Z S.E n3 Γ3 (Δ3 ++ Δ) σ3 (vs3 ++ vs) H3 := fun ⟨B3, F3, G3, k⟩ => ⟨B3, F3, G3 ++ G', c1.cutT (fun a => Nat.le_refl _) k⟩
    refine hsu a oe pn (S.E.cut H B F') xa rfl [] _ [] H _ ⟨B, F', [], c1.cut c1.sl fun a => Nat.le_refl _⟩ ?_
    cases o with
    | none => exact ⟨fun n3 Γ3 σ3 H3 h3 a3 => m.nx n3 Γ3 σ3 H3 h3 (back a3), fun n3 Γ3 r σ3 v H3 h3 a3 => m.rt n3 Γ3 r σ3 v H3 h3 (back a3), fun n3 Γ3 σ3 H3 h3 a3 => m.bk n3 Γ3 σ3 H3 h3 (back a3), fun n3 Γ3 σ3 H3 h3 a3 => m.ct n3 Γ3 σ3 H3 h3 (back a3)⟩
    | some i => exact ⟨fun n3 Γ3 σ3 H3 h3 a3 => m.nx n3 _ _ H3 h3 (At.setN (back a3) hnm.2), fun n3 Γ3 r σ3 v H3 h3 a3 => m.rt n3 Γ3 r σ3 v H3 h3 (back a3), fun n3 Γ3 σ3 H3 h3 a3 => m.bk n3 _ _ H3 h3 (At.setN (back a3) hnm.2), fun n3 Γ3 σ3 H3 h3 a3 => m.ct n3 _ _ H3 h3 (At.setN (back a3) hnm.2)⟩
theorem hs_try {body : List Stmt} {h₀ : ExceptHandler} {hds : List ExceptHandler} (l : List HdD) (XP' : XPost) (hN : S.X.N.Nodup) (hmix : DLT.HdsMix S.X (h₀ :: hds) (hdl S.X l)) (hx : ∀ n Γ C ns ds, XP' n Γ C ns ds → HdOk S P l n Γ C ns ds)
    (hb : ∀ (pn : List (Addr × Obj)) (xe : Value → Shared → Prop) (E' : Ent) (W' : WX) (tk : Takes (S.X.tr pn xe) W') (xo : XOk ⟨S.X.K, S.st, S.cs, S.T⟩ E' XP' W') (po : PassesOwn (model S.X.prog S.X.w) S.X.A S.X.env xe), E'.P = S.E.P →
      (∀ {n Γ Δ σ vs H B F G}, AtB S.Z E' n Γ Δ σ vs H B F G → ∃ Δ' vs' G', AtB S.Z S.E n Γ Δ' σ vs' H B F G') →
      HSs ⟨S.X.tr pn xe, S.st, S.cs, S.T, E', W', XP', tk, xo, po⟩ body n Γ P)
    (hst : S.X.stack = S.X.env :: S.X.outer := by rfl) (hf : S.X.env.frame = some S.X.env.locals := by rfl) : HS S (.Try body (h₀ :: hds) [] [] pos) n Γ P := by
  intro Δ σ vs H D ⟨B, F, G, a⟩ m
  refine ⟨_, DLT.ps_try_mix (tb := fun W D σ H => ∀ (pn : List (Addr × Obj)) (xe : Value → Shared → Prop), Takes (S.X.tr pn xe) W → PassesOwn (model S.X.prog S.X.w) S.X.A S.X.env xe → cSs (S.X.tr pn xe) body D σ H) hN hst hf S.tk (fun W pn xe tk po => ⟨fun pins s σ H D I h => pss_c.run pins s σ H D I (h pn xe tk po)⟩) hmix, fun pn xe tk po => ?_⟩
  have hc : ∀ b, F.count b ≤ F.count b := fun b => Nat.le_refl _
  have back : ∀ {n3 Γ3 Δ3 σ3 vs3 H3}, DL.At S.Z (S.E.cut H B F) n3 Γ3 Δ3 σ3 vs3 H3 → DL.At S.Z S.E n3 Γ3 (Δ3 ++ Δ) σ3 (vs3 ++ vs) H3 := fun ⟨B3, F3, G3, k⟩ => ⟨B3, F3, G3 ++ G, a.cutT hc k⟩
  refine hb pn xe (S.E.cut H B F) _ tk (fun n' Γ' C ns ds d σ' H2 B2 F2 k ed hX => ?_) po rfl (fun k => ⟨_, _, _, a.cutC hc k⟩) [] σ [] H D ⟨B, F, [], a.cut a.sl hc⟩ ⟨fun n3 Γ3 σ3 H3 h3 a3 => m.nx n3 Γ3 σ3 H3 h3 (back a3), fun n3 Γ3 r σ3 v H3 h3 a3 => m.rt n3 Γ3 r σ3 v H3 h3 (back a3), fun n3 Γ3 σ3 H3 h3 a3 => m.bk n3 Γ3 σ3 H3 h3 (back a3), fun n3 Γ3 σ3 H3 h3 a3 => m.ct n3 Γ3 σ3 H3 h3 (back a3)⟩
  exact wMix_ok m (a.cutT hc k) ed (fun hxp => S.xo n' Γ' C ns ds d σ' H2 B2 F2 (a.cutC hc k) ed hxp) (hx n' Γ' C ns ds hX)
/-- e.f in an except suite -/
theorem he_xf (i : Nat) {a : Addr} {oe : Obj} {pn : List (Addr × Obj)} {E' : Ent} {C : Addr} {ns : List Str} {ds : List D} {x f : Str} {d : D} (xa : ExAt S C ns ds a oe E') (T : XfC S.X.K C) (hno : PySem.W.findIn S.X.K (.ref C) f = some none)
    (hl : (ns.zip ds).lookup f = some d) (h0 : Γ[i]? = some (some (.frz (.opq (.ref a))))) (hN : S.X.N[i]? = some x) (hv : Vis S.X.env.scope x) (k : K n Γ (.frz d)) (hd : (x == ("__debug__" : Str)) = false := by decide) (hcd : (x == ("__classdict__" : Str)) = false := by decide)
    (hb : attributeBase (.Name x p) f (S.hnd a oe pn E').X.env (eval (.Name x p) (S.hnd a oe pn E').X.env) = eval (.Name x p) (S.hnd a oe pn E').X.env := by rfl) : HE (S.hnd a oe pn E') (.Attribute (.Name x p) f pos) n Γ K := by
  intro Δ σ vs H Q ⟨B, F, G, at0⟩ q
  obtain ⟨d0, hz, hn⟩ := xa.zc
  obtain ⟨v, h1, h2⟩ := at0.sl.frz h0
  have h2 : v = .ref a := h2
  subst h2
  rcases hn with hn | ⟨dd, xs, e1, e2, e3, e4, e5, e6, e7⟩
  · subst hn
    cases hl
  · obtain ⟨y, hy, ry⟩ := zip_rp (e4.mono at0.evo.exB) hl
    exact ⟨_, pe_xf T hno hz xa.fl (pe_var hN hv hd hcd) hb, _, h1, rfl, rfl, dd, _, y, e1, at0.evo.ex _ _ e2 e5 e6 e7 (fun ps z => by cases z), hy, q n Γ _ y H k ⟨B, F, G, at0.pushV ry⟩⟩
end
end DL

set_option Elab.async false
set_option linter.all false
set_option maxRecDepth 100000
/-! DLV: x(lambda: body), with word that no table comes. -/
namespace DLV
open PySem PySem.Spec PyProof.Rows L2 LamX
section
variable {X : Cx} {pins : List (Addr × Obj)} {σ : L2.St} {H : Hp} {s : Shared}
theorem lam_make3 {T : List (Addr × Str)} {c P : Addr} {params : Arguments} {body : Expr} {scope : Scope} {pos : Pos} {E : Value → Shared → Prop} {Q : Value → Shared → Prop} (I : Inv X pins σ H s) (TB : TabB X.base X.mg c P) (hcode : X.env.code = .ref c)
    (hm : (P, X.env.qual ++ "<lambda>") ∈ T) (hu : ∀ p ∈ T, p.1 = P → p.2 = X.env.qual ++ "<lambda>") (hT : Tabs T H) (hdef : defaultsOf params X.env = ([], [])) (hfree : ∀ y ∈ scope.names, y.2 = .free → ∃ c, X.env.cells.lookup y.1 = some c)
    (h : ∀ (f c' : Addr) (pm ctv : Value) (H1 : Hp) (s' : Shared), Inv X pins σ H1 s' → ExtN H H1 → Tabs T H1 → (∀ a ps, H1 a = some (.tbl ps) → ∃ ps', H a = some (.tbl ps')) →
      s'.heap.get? f = some (PySem.W.kla_obj "<lambda>" (X.env.qual ++ "<lambda>") params body scope (cloFrom X.env.cells scope.names []) pm c' ctv) → H1 f = none → f ∉ frs X.stack → H1 c' = some (CodeO c' (X.env.qual ++ "<lambda>")) → Q (.ref f) s') :
    wpAny (model X.prog X.w) X.A (eval (.Lambda params body scope pos) X.env) Q E s := by
  obtain ⟨ps, hP, ht, ha⟩ := hT _ hm
  refine PySem.W.kla_eval hdef ?_
  have bP : s.heap.BuiltinsAt X.mg P := TB.bm.keeps I.bk
  have hP' : s.heap.get? P = some { cls := .none, data := .fields ps } := I.hok P _ hP
  have nofr : ∀ f, s.heap.objs.size ≤ f → f ∉ frs X.stack := fun f hf z => by
    rcases List.mem_cons.mp (I.stkSub _ z) with e | e
    · have h1 := I.lt
      rw [← e] at h1
      exact Nat.lt_irrefl _ (Nat.lt_of_lt_of_le h1 hf)
    · exact I.nofs hf e
  cases hc : codeAmong pos ps.toList with
  | none =>
    refine PySem.W.kla_makeFunction (mg := X.mg) (c := c) (P := P) (ps := ps) (closure_ok hfree) I.ok.glob (I.mod.glob.keeps I.bk) hcode (TB.code.keeps I.bk) hP' ht hc TB.gP bP fun c' ctv h' tk hx hge hlt hrec htb => ?_
    obtain ⟨c2, oc, vs, t, e2, hoc, hd, hv⟩ := hrec
    cases e2
    have hsz : s.heap.objs.size ≤ h'.objs.size := Nat.le_trans hge (Nat.le_of_lt hlt)
    have nC : H c' = none := I.hok.fresh hge
    have I1 := inv_table (t' := tk) (more := #[rawInt pos.line, rawInt pos.col, .ref c']) (h' := h'.push (PySem.W.kla_obj "<lambda>" (X.env.qual ++ "<lambda>") params body scope (cloFrom X.env.cells scope.names []) ((X.mg "__name__").getD .none) c' ctv)) I hP
      (fun b o hb e => Heap.get?_push_of_some _ (hx b o hb e)) (Heap.get?_push_of_some _ htb) hge ⟨oc, vs, t, Heap.get?_push_of_some _ hoc, hd, hv⟩
    have hE : ExtN H (upd (upd H P (.tbl (ps ++ #[rawInt pos.line, rawInt pos.col, .ref c']))) c' (CodeO c' (X.env.qual ++ "<lambda>"))) := fun b o e n => by
      rw [upd_ne (ne_of_none e nC), upd_ne (fun z => n ps (Option.some.inj (e.symm.trans (by rw [z]; exact hP))))]
      exact e
    have hTb : ∀ a ps', (upd (upd H P (.tbl (ps ++ #[rawInt pos.line, rawInt pos.col, .ref c']))) c' (CodeO c' (X.env.qual ++ "<lambda>"))) a = some (.tbl ps') → ∃ ps'', H a = some (.tbl ps'') := fun a ps' e => by
      by_cases z : a = c'
      · rw [z, upd_same] at e
        exact absurd (Option.some.inj e) (codeO_ne ps')
      · rw [upd_ne z] at e
        by_cases y : a = P
        · rw [y]; exact ⟨_, hP⟩
        · rw [upd_ne y] at e
          exact ⟨_, e⟩
    have eL : (ps ++ #[rawInt pos.line, rawInt pos.col, .ref c']).toList = ps.toList ++ [rawInt pos.line, rawInt pos.col, .ref c'] := by simp
    refine h h'.objs.size c' ((X.mg "__name__").getD .none) ctv _ _ I1 hE (fun p hp => ?_) hTb (Heap.get?_push_size _ rfl) ?_ (nofr _ hsz) upd_same
    · by_cases hb : p.1 = P
      · rw [hu p hp hb, hb]
        refine ⟨_, by rw [upd_ne (ne_of_none hP nC), upd_same], by rw [eL]; exact PySem.TriplesOk_snoc _ _ _ _ ht, fun p' cv hcv => ?_⟩
        rw [eL] at hcv
        rcases among_app _ ht hcv with z | z
        · obtain ⟨c0, e1, e2⟩ := ha p' cv z
          exact ⟨c0, e1, hE _ _ e2 codeO_ne⟩
        · exact ⟨c', z, upd_same⟩
      · obtain ⟨ps', a1, a2, a3⟩ := hT p hp
        refine ⟨ps', by rw [upd_ne (ne_of_none a1 nC), upd_ne hb]; exact a1, a2, fun p' cv hcv => ?_⟩
        obtain ⟨c0, e1, e2⟩ := a3 p' cv hcv
        exact ⟨c0, e1, hE _ _ e2 codeO_ne⟩
    · have n1 : h'.objs.size ≠ c' := Nat.ne_of_gt hlt
      have n2 : h'.objs.size ≠ P := Nat.ne_of_gt (Nat.lt_of_lt_of_le (Heap.lt_size hP') hsz)
      rw [upd_ne n1, upd_ne n2]
      exact I.hok.fresh hsz
  | some cv =>
    obtain ⟨c', e, hco⟩ := ha pos cv hc
    subst e
    refine PySem.W.kla_makeFunctionHit (mg := X.mg) (c := c) (P := P) (ps := ps) (closure_ok hfree) I.ok.glob (I.mod.glob.keeps I.bk) hcode (TB.code.keeps I.bk) hP' ht hc bP fun ctv h' tk hx hsz => ?_
    have I1 : Inv X pins σ H { s with heap := h'.push (PySem.W.kla_obj "<lambda>" (X.env.qual ++ "<lambda>") params body scope (cloFrom X.env.cells scope.names []) ((X.mg "__name__").getD .none) c' ctv), toks := tk } := I.kept fun b o e => Heap.get?_push_of_some _ (hx b o e)
    exact h h'.objs.size c' ((X.mg "__name__").getD .none) ctv H _ I1 (ExtN.refl H) hT (fun a ps e => ⟨ps, e⟩) (Heap.get?_push_size _ rfl) (I.hok.fresh hsz) (nofr _ hsz) hco
def tLam3 (T : List (Addr × Str)) (TT : (XK → Hp → VK → Prop) → Hp → VK → Prop) (t : XK → TE) : TE := fun σ H Q => Tabs T H ∧ ∀ H1, ExtN H H1 → Tabs T H1 → (∀ a ps, H1 a = some (.tbl ps) → ∃ ps', H a = some (.tbl ps')) → TT (fun E H' Q' => t E σ H' Q') H1 Q
theorem pe_lamcall3 {T : List (Addr × Str)} {TT : (XK → Hp → VK → Prop) → Hp → VK → Prop} {x a : Str} {g c P : Addr} {k : Nat} {pg : Arguments} {bg : List Stmt} {sg : Scope} {dV kV doc pm cdv ct oc : Value} {an od : Option Addr} {osl : Array (Option Value)} {Ng : List Str}
    {params : Arguments} {body : Expr} {scope : Scope} {t : XK → TE} {p lpos pos : Pos} (hg : Gl X x) (hm : X.mg x = some (.ref g)) (hk : PySem.W.keepIn X.K (.ref g) = true)
    (lk : X.K.lookup g = some ⟨oc, od, .func (PySem.W.fnOf x x pg bg sg dV kV doc pm an cdv ct), osl⟩) (hcg : PySem.W.codeIn X.K cdv x = true) (hb : L2.Binds X.K (PySem.W.fnOf x x pg bg sg dV kV doc pm an cdv ct) [a] []) (Sg : FnScope Ng [a] sg) (hNg : Ng[0]? = some a) (hva : Vis sg a)
    (hG : GivesTo X Ng x sg g cdv bg a (X.env.qual ++ "<lambda>") TT)
    (TB : TabB X.base X.mg c P) (hcode : X.env.code = .ref c) (hmT : (P, X.env.qual ++ "<lambda>") ∈ T) (hu : ∀ p ∈ T, p.1 = P → p.2 = X.env.qual ++ "<lambda>") (hr : Room (k + 2) X.A) (L : LamS X.env.scope scope) (hdef : defaultsOf params X.env = ([], []))
    (hbind : ∀ (q : Str) (cl : List (Str × Addr)) (pm cv ctv : Value), bindArgs (PySem.W.kla_fn "<lambda>" q params body scope cl pm cv ctv) ⟨[], []⟩ = pure [])
    (hbody : ∀ (A : Around) (outer : List Env) (s : Shared) (H : Hp) (E : XK) (f c' : Addr), Room k (A.deeper (lamEnv X scope s.heap.objs.size f c')) → PE (lamCx X A outer s H E scope f c') body (t E))
    (hdb : (x == ("__debug__" : Str)) = false := by decide) (hd : (a == ("__debug__" : Str)) = false := by decide) (hcd : (a == ("__classdict__" : Str)) = false := by decide) :
    PE X (.Call (.Name x p) [.Lambda params body scope lpos] [] pos) (tLam3 T TT t) := by
  refine ⟨fun pins s σ H Q I h => ?_⟩
  obtain ⟨hT, h⟩ := h
  refine wpAny_Call_Name_kw (ld_glob I hg hm ?_ hdb)
  refine PySem.W.callWith_K (h₀ := X.base) I.ok.mod.kin hk ?_ (by rfl) (by rfl)
  show wpAny _ _ (spliced ((false, eval (.Lambda params body scope lpos) X.env) :: backTo pos (starEach [] X.env))) _ _ s
  refine Calls.spliced_cons (lam_make3 I TB hcode hmT hu hT hdef (L.has I.ok) fun f c' pm' ctv H1 s' I1 eN T1 tb1 hf hfn hfr hco => ?_)
  refine Calls.spliced_nil ⟨I1.kIn, ?_⟩
  have rc : codeAny (model X.prog X.w) X.A (.call (.ref g) ⟨[.ref f], []⟩) (CR C8.CX0 X.stack X.prog X.w H1 s' Q C8.E0) s' := by
    refine run_ofS (N := Ng) (ps := [a]) (us := [.ref f]) (vs := [.ref f]) lk hcg Sg hr I1.env0 (hb s' [.ref f] I1.kIn rfl) (.cons rfl .nil) rfl fun hr' => ?_
    obtain ⟨t', ht', hq'⟩ := hG f c' s' H1 Q (fun E H' Q' => t E σ H' Q') (fun W pn xe E p1 p2 tk hW => pe_act (i := 0) I1 L hf hfn hfr (hbind _ _ _ _ _) tk hW hr' (fun A outer s H hr2 => hbody A outer s H E f c' hr2) hNg hva hd hcd) hco (h H1 eN T1 tb1)
    exact ⟨t', ht'.nox, hq'⟩
  refine wpAny_call (codeAny_mono rc fun r s2 hq => ?_)
  cases r with
  | error e => exact (show False from hq).elim
  | ok fl =>
    cases fl with
    | ret u => exact I1.after hq
    | next => exact False.elim hq
    | brk => exact False.elim hq
    | cont => exact False.elim hq
end
end DLV

set_option Elab.async false
set_option linter.all false
set_option maxRecDepth 100000
set_option maxHeartbeats 4000000
/-! DLO: x(lambda: body). -/
namespace DL
open PySem PySem.Spec PyProof.Rows L2 Evl

/-- what an own def of one parameter does with a thing that it may call: the ends of the call, its own -/
abbrev GSpec := Nat → (Nat → OT → Prop) → (Nat → Addr → List Str → List D → Prop) → (Nat → OT → Prop) → Prop
/-- the call of the thing, from a state behind H0 -/
def LamD (Z : Wd) (tl : XK → Hp → VK → Prop) (H0 B0 : Hp) (n : Nat) (KL : Nat → OT → Prop) (XL : Nat → Addr → List Str → List D → Prop) : Prop :=
  ∀ HZ BZ E Q, Evo Z ⟨H0, B0, [], []⟩ HZ BZ → StrOk Z n HZ → BOk Z BZ → TabOk Z.T HZ → (∀ n' r v H2 B2 G2, KL n' r → CallEnd Z HZ BZ [] [] n' [] r v H2 B2 [] G2 → Q v H2) →
    (∀ n' C ns ds d H2 B2, XL n' C ns ds → ExcEnd Z HZ BZ [] n' ns ds d H2 B2 → E (.ref C) d H2) → tl E HZ Q
def TTof (Z : Wd) (sp : GSpec) : (XK → Hp → VK → Prop) → Hp → VK → Prop := fun tl H Q => ∃ n B KL XL KP, Ready Z n [] [] H B [] ∧ LamD Z tl H B n KL XL ∧ sp n KL XL KP ∧ ∀ n' r v H2 B2 G2, KP n' r → CallEnd Z H B [] [] n' [] r v H2 B2 [] G2 → Q v H2
/-- run() does what the thing does -/
def RunOk (X0 : Cx) (a : Str) (f c' : Addr) (q : Str) (tl : XK → Hp → VK → Prop) : Prop :=
  ∀ (W : WX) (pn : List (Addr × Obj)) (xe : Value → Shared → Prop) (E : XK) (p1 p2 : Pos), Takes (X0.tr pn xe) W → (∀ cls d σ' H', E cls d H' → W cls d σ' H') →
    PE (X0.tr pn xe) (.Call (.Name a p1) [] [] p2) (fun σZ HZ Q => σZ[0]? = some (some (.ref f)) ∧ HZ c' = some (LamX.CodeO c' q) ∧ tl E HZ Q)
theorem evo_end {Z : Wd} {E : Ent} {n : Nat} {Γ : Slots} {r : OT} {σ : L2.St} {v : V} {H B : Hp} {F G : List Addr} {H0 B0 : Hp} (hE : E = ⟨H0, B0, [], E.P⟩) (a : AtB Z E n Γ [r] σ [v] H B F G) : ∃ G2, CallEnd Z H0 B0 [] [] n [] r v H B [] G2 := by
  obtain ⟨y, ys, F3, F4, e1, e2, e3, e4⟩ := id a.tm
  obtain ⟨rfl, rfl⟩ := List.cons.inj e1
  have e5 : F4 = [] := e4.2
  subst e5
  rw [List.append_nil] at e2
  subst e2
  have ev := a.evo
  rw [hE] at ev
  have out := a.out
  rw [hE] at out
  exact ⟨G, ⟨ev.ex, ev.tb, ev.exB, ev.new, ev.sub⟩, ⟨rfl, rfl⟩, e3, fun b => by have := a.nd b; simp; omega, fun b hb => out b (by have hb : 0 < ([] : List Addr).count b + G.count b := hb; rw [List.count_nil] at hb; omega), a.str, a.bst, a.tab⟩
section
variable {P : Program} {w : World} {K : PySem.W.Frag} {mg : Str → Option Value} {base : Heap} {st cs : Addr} {T : List (Addr × Str)}
abbrev gX (P : Program) (w : World) (K : PySem.W.Frag) (mg : Str → Option Value) (base : Heap) (N : List Str) (x : Str) (sg : Scope) (g : Addr) (cdg : Value) (A : Around) (stack : List Env) (s : Shared) (H : Hp) : Cx :=
  cxOf C8.CX0 P w K mg base N x sg g cdg A stack s H C8.E0
/-- where the def's body stands -/
abbrev gS (P : Program) (w : World) (K : PySem.W.Frag) (mg : Str → Option Value) (base : Heap) (st cs : Addr) (T : List (Addr × Str)) (N : List Str) (x : Str) (sg : Scope) (g : Addr) (cdg : Value) (A : Around) (stack : List Env) (s : Shared) (H B : Hp) : Sit :=
  ⟨(gX P w K mg base N x sg g cdg A stack s H).nox, st, cs, T, ⟨H, B, [], []⟩, fun _ _ _ _ => False, fun _ _ _ _ _ => False, fun u s' ⟨a, B, sI, pins, σ, H, cls, d, e, I, nb, up, sky, na, os, ag, w⟩ => w.elim, fun n Γ C ns ds d σ H B F _ _ h => h.elim, PassesOwn.never⟩
/-- the own def x of the parameter a, called with a thing to call -/
structure OkL (P : Program) (w : World) (K : PySem.W.Frag) (mg : Str → Option Value) (base : Heap) (Z : Wd) (x a : Str) (s : Stmt) (N : List Str) (sp : GSpec) : Prop where
  df : Def1 K mg x s
  sc : FnScope N [a] (defScope s)
  n0 : N[0]? = some a
  vs : Vis (defScope s) a
  bd : ∀ (kV doc pm : Value) (an : Option Addr) (cdv ct : Value) (us : List Value), us.length = 1 → bindArgs (PySem.W.fnOf x x (defArgs s) (defBody s) (defScope s) .none kV doc pm an cdv ct) ⟨us, []⟩ = pure ([a].zip us)
  gv : ∀ (X : Cx) (q : Str) (g : Addr) (cdg : Value), X.prog = P → X.w = w → X.K = K → X.mg = mg → X.base = base → LamX.GivesTo X N x (defScope s) g cdg (defBody s) a q (TTof Z sp)
theorem okL_of {x a : Str} {s : Stmt} {N : List Str} {sp : GSpec} (df : Def1 K mg x s) (sc : FnScope N [a] (defScope s)) (n0 : N[0]? = some a) (vs : Vis (defScope s) a)
    (hb : ∀ (g : Addr) (cdg : Value) (A : Around) (stack : List Env) (s' : Shared) (H B : Hp) (f c' : Addr) (q : Str) (tl : XK → Hp → VK → Prop) (n : Nat) KL XL KP, RunOk (gX P w K mg base N x (defScope s) g cdg A stack s' H) a f c' q tl → H c' = some (LamX.CodeO c' q) → c' ≠ st → c' ≠ cs →
      LamD ⟨K, st, cs, T⟩ tl H B n KL XL → sp n KL XL KP →
      HSs (gS P w K mg base st cs T N x (defScope s) g cdg A stack s' H B) (defBody s) n (some (.frz (.opq (.ref f))) :: List.replicate (N.length - 1) none) { nx := fun n' _ => KP n' (.frz .non), rt := fun n' _ r => KP n' r })
    (bd : ∀ (kV doc pm : Value) (an : Option Addr) (cdv ct : Value) (us : List Value), us.length = 1 → bindArgs (PySem.W.fnOf x x (defArgs s) (defBody s) (defScope s) .none kV doc pm an cdv ct) ⟨us, []⟩ = pure ([a].zip us)) :
    OkL P w K mg base ⟨K, st, cs, T⟩ x a s N sp := by
  refine ⟨df, sc, n0, vs, bd, fun X q g cdg h1 h2 h3 h4 h5 => ?_⟩
  subst h1 h2 h3 h4 h5
  intro f c' s' H Q tl hrun hcode ⟨n, B, KL, XL, KP, rd, hlam, hsp, hq⟩
  have ne1 : c' ≠ st := fun z => by
    obtain ⟨_, _, _, _, e, _⟩ := rd.str
    have e : H st = _ := e
    rw [← z, hcode] at e
    cases e
  have ne2 : c' ≠ cs := fun z => by
    obtain ⟨_, _, _, _, _, e, _⟩ := rd.str
    have e : H cs = _ := e
    rw [← z, hcode] at e
    cases e
  have hbody := hb g cdg X.A X.stack s' H B f c' q tl n KL XL KP hrun hcode ne1 ne2 hlam hsp
  have at0 : AtB ⟨X.K, st, cs, T⟩ ⟨H, B, [], []⟩ n (some (.frz (.opq (.ref f))) :: List.replicate (N.length - 1) none) [] (L2.start N [.ref f]) [] H B [] [] := by
    refine ⟨⟨fun _ _ e _ _ _ _ => e, fun a ps e => ⟨ps, e⟩, Ex.refl B, fun a h1 h2 => absurd h1 h2, rd.sub⟩, ?_, ⟨rfl, rfl⟩, fun a => by simp, fun a ha => by simp at ha, rd.str, rd.bst, rd.tab, True.intro⟩
    exact RpS.start (as := [.frz (.opq (.ref f))]) (vs := [.ref f]) (N.length - 1) ⟨.ref f, [], [], [], rfl, rfl, ⟨rfl, rfl⟩, rfl, rfl⟩
  have ed : ∀ {n' Γ' r σ v H2}, KP n' r → DL.At ⟨X.K, st, cs, T⟩ ⟨H, B, [], []⟩ n' Γ' [r] σ [v] H2 → Q v H2 := fun hk ⟨B2, F2, G2, a⟩ => by
    obtain ⟨G3, ce⟩ := evo_end (H0 := H) (B0 := B) rfl a
    exact hq _ _ _ _ _ _ hk ce
  exact ⟨_, pss_c, hbody [] (L2.start N [.ref f]) [] H _ ⟨B, [], [], at0⟩ ⟨fun n' Γ' σ H2 h a => ed h (a.flat fun _ => by exact rfl), fun n' Γ' r σ v H2 h a => ed h a, fun _ _ _ _ h => h.elim, fun _ _ _ _ h => h.elim⟩⟩
end
/-- run() in the def's try -/
theorem he_run {X0 : Cx} {st cs : Addr} {T : List (Addr × Str)} {pn : List (Addr × Obj)} {xe : Value → Shared → Prop} {E' : Ent} {W' : WX} {XP' : XPost} {tk : Takes (X0.tr pn xe) W'} {xo : XOk ⟨(X0.tr pn xe).K, st, cs, T⟩ E' XP' W'} {po : PassesOwn (model (X0.tr pn xe).prog (X0.tr pn xe).w) (X0.tr pn xe).A (X0.tr pn xe).env (X0.tr pn xe).xe}
    {a q : Str} {f c' : Addr} {tl : XK → Hp → VK → Prop} {H0 B0 : Hp} {n : Nat} {Γ : Slots} {K : Nat → Slots → OT → Prop} {KL : Nat → OT → Prop} {XL : Nat → Addr → List Str → List D → Prop} {p1 p2 : Pos}
    (hrun : RunOk X0 a f c' q tl) (hc : H0 c' = some (LamX.CodeO c' q)) (ne1 : c' ≠ st) (ne2 : c' ≠ cs) (hlam : LamD ⟨X0.K, st, cs, T⟩ tl H0 B0 n KL XL) (hΓ : Γ[0]? = some (some (.frz (.opq (.ref f))))) (hP : E'.P = [])
    (hlink : ∀ {n : Nat} {Γ : Slots} {Δ : List OT} {σ : L2.St} {vs : List V} {H B : Hp} {F G : List Addr}, AtB ⟨X0.K, st, cs, T⟩ E' n Γ Δ σ vs H B F G → Evo ⟨X0.K, st, cs, T⟩ ⟨H0, B0, [], []⟩ H B)
    (hK : ∀ n' r, KL n' r → K n' Γ r) (hX : ∀ n' C ns ds, XL n' C ns ds → XP' n' (List.replicate X0.N.length none) C ns ds) :
    HE ⟨X0.tr pn xe, st, cs, T, E', W', XP', tk, xo, po⟩ (.Call (.Name a p1) [] [] p2) n Γ K := by
  intro Δ σ vs H Q ⟨B, F, G, h⟩ q
  have tk2 : Takes (X0.tr pn xe) (fun cls d σ' H' => σ'.length = X0.N.length → W' cls d σ' H') := fun u s' ⟨a, B, sI, pins, σ, H, cls, d, e, I, nb, up, sky, na, os, ag, w⟩ => tk u s' ⟨a, B, sI, pins, σ, H, cls, d, e, I, nb, up, sky, na, os, ag, w I.len⟩
  have ev := hlink h
  obtain ⟨v0, h1, h2⟩ := h.sl.frz hΓ
  have h2 : v0 = .ref f := h2
  subst h2
  refine ⟨_, hrun _ pn xe (fun cls d H' => ∀ σ' : L2.St, σ'.length = X0.N.length → W' cls d σ' H') p1 p2 tk2 (fun cls d σ' H' h hl => h σ' hl), h1, ev.ex c' _ hc (fun z => by cases z) ne1 ne2 (fun ps z => by cases z), ?_⟩
  obtain ⟨G1, c1, c2, c3⟩ := AtB.call (rs := []) (xs := []) h rfl
  have e1 : G1 = [] := c1.os.2
  subst e1
  refine hlam H B _ Q ev h.str h.bst h.tab (fun n' r v H2 B2 G2 hk ce => q n' Γ r v H2 (hK n' r hk) (c2 n' [] r v H2 B2 [] G2 ce)) fun n' C ns ds d H2 B2 hx ee σ' hl => ?_
  obtain ⟨G', k, ed⟩ := c3 n' ns ds d H2 B2 ee
  refine xo n' (List.replicate X0.N.length none) C ns ds d σ' H2 B2 [] ⟨k.evo, by rw [← hl]; exact RpS.nones σ', ⟨rfl, rfl⟩, fun a => by simp, fun a ha => by simp at ha, k.str, k.bst, k.tab, by rw [hP]; exact True.intro⟩ ed (hX n' C ns ds hx)

/-! ### the caller -/
theorem AtB.extN {Z : Wd} {E : Ent} {n : Nat} {Γ : Slots} {Δ : List OT} {σ : L2.St} {vs : List V} {H H1 B : Hp} {F G : List Addr} (h : AtB Z E n Γ Δ σ vs H B F G) (e : LamX.ExtN H H1) (t : LamX.Tabs Z.T H1) (tb : ∀ a ps, H1 a = some (.tbl ps) → ∃ ps', H a = some (.tbl ps')) : AtB Z E n Γ Δ σ vs H1 B F G := by
  have ta : ∀ a ps, H1 a = some (.tbl ps) → ∃ q, (a, q) ∈ Z.T := fun a ps e => by
    obtain ⟨ps', q⟩ := tb a ps e
    exact h.tab.all a ps' q
  have keep : ∀ a, 0 < F.count a + G.count a → ∀ o, H a = some o → H1 a = some o := fun a ha o q => by
    obtain ⟨u, e1, e2⟩ := h.thereF ha
    rw [q] at e1
    cases e1
    exact e a o q e2
  have tbk : ∀ a ps, H a = some (.tbl ps) → ∃ ps', H1 a = some (.tbl ps') := fun a ps q => by
    obtain ⟨nm, hm⟩ := h.tab.all a ps q
    obtain ⟨ps', h1, _⟩ := t (a, nm) hm
    exact ⟨ps', h1⟩
  refine ⟨⟨fun a o q hm h1 h2 h3 => e a o (h.evo.ex a o q hm h1 h2 h3) h3, fun a ps q => ?_, h.evo.exB, h.evo.new, fun a o q => e a o (h.evo.sub a o q) (fun ps z => h.bst.nt a ps (by rw [q, z]))⟩, RpS.mono (Ex.refl B) (fun a ha => keep a (by have := List.count_pos_iff.mpr ha; omega)) h.sl, RpOs.mono (Ex.refl B) (fun a ha => keep a (by have := List.count_pos_iff.mpr ha; omega)) h.tm, h.nd, h.out, ?_, h.bst, ⟨t, ta⟩, h.pin⟩
  · obtain ⟨ps', q'⟩ := h.evo.tb a ps q
    exact tbk a ps' q'
  · obtain ⟨ns, a, b, c, e1, e2, e3⟩ := h.str
    exact ⟨ns, a, b, c, e _ _ e1 (fun ps z => by cases z), e _ _ e2 (fun ps z => by cases z), e3⟩

section
variable {S : Sit} {n : Nat} {Γ : Slots} {K : Nat → Slots → OT → Prop} {pos p lpos : Pos}
/-- x(lambda: body): the body sees the frozen slots -/
theorem he_lam {x a : Str} {s : Stmt} {Ng : List Str} {sp : GSpec} {c Pt : Addr} {k : Nat} {params : Arguments} {body : Expr} {scope : Scope} (O : OkL S.X.prog S.X.w S.X.K S.X.mg S.X.base S.Z x a s Ng sp) (TB : LamX.TabB S.X.base S.X.mg c Pt) (hcode : S.X.env.code = .ref c)
    (hmT : (Pt, S.X.env.qual ++ "<lambda>") ∈ S.T) (hu : ∀ p ∈ S.T, p.1 = Pt → p.2 = S.X.env.qual ++ "<lambda>") (hr : Room (k + 2) S.X.A) (L : LamX.LamS S.X.env.scope scope)
    (KL : Nat → OT → Prop) (XL : Nat → Addr → List Str → List D → Prop)
    (hlam : ∀ (A : Around) (outer : List Env) (s : Shared) (H0 : Hp) (E : XK) (f c' : Addr) (El : Ent) tk xo po, Room k (A.deeper (LamX.lamEnv S.X scope s.heap.objs.size f c')) → El.P = S.E.P →
      HE ⟨LamX.lamCx S.X A outer s H0 E scope f c', S.st, S.cs, S.T, El, fun cls d _ H => E cls d H, fun n _ C ns ds => XL n C ns ds, tk, xo, po⟩ body n (onlyF Γ) fun n' _ r => KL n' r)
    (hsp : sp n KL XL fun n' r => K n' Γ r) (hg : Gl S.X x := by rfl)
    (hdef : defaultsOf params S.X.env = ([], []) := by rfl) (hbind : ∀ (q : Str) (cl : List (Str × Addr)) (pm cv ctv : Value), bindArgs (PySem.W.kla_fn "<lambda>" q params body scope cl pm cv ctv) ⟨[], []⟩ = pure [] := by exact fun _ _ _ _ _ => rfl)
    (hdb : (x == ("__debug__" : Str)) = false := by decide) (hd : (a == ("__debug__" : Str)) = false := by decide) (hcd : (a == ("__classdict__" : Str)) = false := by decide) :
    HE S (.Call (.Name x p) [.Lambda params body scope lpos] [] pos) n Γ K := by
  obtain ⟨g, fd, hm, F⟩ := O.df
  have hk := F.kp
  have hb := F.bindsN (ps := [a]) (fun kV doc pm an cdv ct us hl => O.bd kV doc pm an cdv ct us hl)
  obtain ⟨oc, od, dV, kV, doc, pm, an, cdv, ct, osl, rfl, lk, hcg, _, _⟩ := F.ex
  intro Δ σ vs H Q ⟨B, F, G, h⟩ q
  refine ⟨_, DLV.pe_lamcall3 (k := k) (t := fun E σ H Q => ∀ (A : Around) (outer : List Env) (s : Shared) (H0 : Hp) (f c' : Addr), Room k (A.deeper (LamX.lamEnv S.X scope s.heap.objs.size f c')) → cE (LamX.lamCx S.X A outer s H0 E scope f c') body σ H Q)
    hg hm hk lk hcg hb O.sc O.n0 O.vs (O.gv S.X _ g cdv rfl rfl rfl rfl rfl) TB hcode hmT hu hr L hdef hbind
    (fun A outer s H E f c' hr => ⟨fun pins s' σ H' Q I h => pe_c.run pins s' σ H' Q I (h A outer s H f c' hr)⟩) hdb hd hcd, h.tab.ts, fun H1 eN T1 tb1 => ?_⟩
  have h1 := h.extN eN T1 tb1
  obtain ⟨G1, c1, c2, c3⟩ := AtB.call (rs := []) (xs := []) h1 rfl
  have e1 : G1 = [] := c1.os.2
  subst e1
  refine ⟨n, B, KL, XL, _, c1, fun HZ BZ E Q' ev str bst tab hK hX A outer s' H0 f c' hr' => ?_, hsp, fun n' r v H2 B2 G2 hk ce => q n' Γ r v H2 hk (c2 n' [] r v H2 B2 [] G2 ce)⟩
  have sl := RpS.mono ev.exB (fun a ha => by simp at ha) h1.sl.onlyF (H' := HZ)
  refine hlam A outer s' H0 E f c' ⟨HZ, BZ, [], S.E.P⟩ (takes_of rfl rfl rfl rfl) (fun n' Γ' C ns ds d σ' H2 B2 F2 a ed hx => hX n' C ns ds d H2 B2 hx ⟨⟨a.evo.ex, a.evo.tb, a.evo.exB, a.evo.new, a.evo.sub⟩, ed, a.str, a.bst, a.tab⟩) (passes_of rfl) hr' rfl [] σ [] HZ Q'
    ⟨BZ, [], [], ⟨fun _ _ e _ _ _ _ => e, fun a ps e => ⟨ps, e⟩, Ex.refl _, fun a h1 h2 => absurd h1 h2, ev.sub⟩, sl, ⟨rfl, rfl⟩, fun a => by simp, fun a ha => by simp at ha, str, bst, tab, h1.pin⟩ fun n' Γ' r v H2 hk ⟨B2, F2, G2, a⟩ => ?_
  obtain ⟨G3, ce⟩ := evo_end (H0 := HZ) (B0 := BZ) rfl a
  exact hK n' r v H2 B2 G3 hk ce
end
end DL

set_option Elab.async false
set_option linter.all false
set_option maxRecDepth 100000
set_option maxHeartbeats 4000000
/-! DLY: list(d.items()), with word that no table comes; counting. -/
namespace DLY
open PySem PySem.Spec PyProof.Rows L2 LiI
def rItemsT : V → Hp → VK → Prop := fun x H Q => ∃ (d : Addr) (kvs : List (Key × V)), x = .ref d ∧ H d = some (.dK kvs) ∧
  ∀ (H' : Hp) (p : Addr) (ts : List Addr), (∀ b o, H b = some o → H' b = some o) → H p = none → (∀ t ∈ ts, H t = none) → p ∉ ts → H' p = some (.lst (ts.map V.ref)) → Paired (fun (t : Addr) (q : Key × V) => H' t = some (.tup [kV q.1, q.2])) ts kvs → (∀ b ps, H' b = some (.tbl ps) → H b = some (.tbl ps)) → Q (.ref p) H'
def tListItemsT (te : TE) : TE := fun σ H Q => te σ H fun x H1 => rItemsT x H1 Q
section
variable {X : Cx} {e : Expr} {te : TE} {p apos cpos pos : Pos}
theorem items_laidT {pins : List (Addr × Obj)} {σ : L2.St} {H : Hp} {s : Shared} {h' : Heap} {tk : Nat} {kvs : List (Key × V)} {vs : List (Key × Value)} {acc : Array Value} {c : Nat} {as : List Addr} (I : Inv X pins σ H s) (hz : kvs.length ≤ sizeLine) (kv : KV kvs vs)
    (hk : ∀ b o, s.heap.get? b = some o → h'.get? b = some o) (hS : h'.get? s.heap.objs.size = some { cls := .type "list", dict := none, data := .seq acc c, slots := #[] }) (hl : as.length = vs.length) (hG : PySem.W.KdxG (mixKind X.prog X.w) vs s.heap.objs.size h' as) (hacc : acc.toList = as.map Value.ref) :
    ∃ H' : Hp, (∀ b o, H b = some o → H' b = some o) ∧ H s.heap.objs.size = none ∧ (∀ t ∈ as, H t = none) ∧ s.heap.objs.size ∉ as ∧ H' s.heap.objs.size = some (.lst (as.map V.ref)) ∧ Paired (fun (t : Addr) (q : Key × V) => H' t = some (.tup [kV q.1, q.2])) as kvs ∧ (∀ b ps, H' b = some (.tbl ps) → H b = some (.tbl ps)) ∧ Inv X pins σ H' { s with heap := h', toks := tk } := by
  have lk : kvs.length = vs.length := Paired.length kv
  have hSn : s.heap.objs.size ∉ as := fun z => Nat.lt_irrefl _ (hG.above _ z)
  have nd : as.Nodup := List.Pairwise.imp (fun {a b} (h : a < b) => Nat.ne_of_lt h) hG.rise
  have new : ∀ t ∈ as, H t = none := fun t ht => I.hok.fresh (Nat.le_of_lt (hG.above t ht))
  have newS : H s.heap.objs.size = none := I.hok.fresh (Nat.le_refl _)
  have atP := putT_at as kvs (upd H s.heap.objs.size (.lst (as.map V.ref))) (by omega) nd
  have off : ∀ b, b ∉ as → b ≠ s.heap.objs.size → putT (upd H s.heap.objs.size (.lst (as.map V.ref))) as kvs b = H b := fun b h1 h2 => by rw [putT_off as kvs _ h1, upd_ne h2]
  have low : ∀ b o, s.heap.get? b = some o → b ∉ as ∧ b ≠ s.heap.objs.size := fun b o e => ⟨fun z => absurd (Heap.lt_size e) (Nat.not_lt.mpr (Nat.le_of_lt (hG.above b z))), Nat.ne_of_lt (Heap.lt_size e)⟩
  have kp : ∀ b u, H b = some u → (putT (upd H s.heap.objs.size (.lst (as.map V.ref))) as kvs) b = some u := fun b u e => by
    rw [off b (fun z => by rw [new b z] at e; cases e) (fun z => by rw [z, newS] at e; cases e)]
    exact e
  have eS : putT (upd H s.heap.objs.size (.lst (as.map V.ref))) as kvs s.heap.objs.size = some (.lst (as.map V.ref)) := by rw [putT_off as kvs _ hSn, upd_same]
  have tbs : ∀ b ps, putT (upd H s.heap.objs.size (.lst (as.map V.ref))) as kvs b = some (.tbl ps) → H b = some (.tbl ps) := fun b ps e => by
    by_cases hb : b ∈ as
    · obtain ⟨j, pk, e1, e2, e3⟩ := paired_ix atP hb
      rw [e3] at e; cases e
    · by_cases hb2 : b = s.heap.objs.size
      · rw [hb2, eS] at e; cases e
      · rw [off b hb hb2] at e; exact e
  refine ⟨putT (upd H s.heap.objs.size (.lst (as.map V.ref))) as kvs, kp, newS, new, hSn, eS, atP, tbs, ?_⟩
  refine I.call' (ch := []) rfl ⟨fun b o q _ _ _ => hk b o q, fun b o q _ _ _ => ⟨o.slots, hk b o q⟩, fun b o q n _ => ?_, fun b o q _ => ⟨o, hk b o q⟩, fun b xs q => kp b _ q, fun b o u q => kp b _ q, fun b ps q => ⟨#[], by rw [kp b _ q]; simp⟩⟩ (fun b u q => ?_) I.bare fun b z => by simp at z
  · obtain ⟨z1, z2⟩ := low b o q
    rw [off b z1 z2]
    exact n
  · by_cases hb : b ∈ as
    · obtain ⟨j, pk, e1, e2, e3⟩ := paired_ix atP hb
      rw [e3] at q
      cases q
      obtain ⟨key, k, x, f1, f2, f3⟩ := hG.pairs j b e1
      obtain ⟨qv, g1, g2, g3⟩ := LiI.paired_get kv e2
      rw [f1] at g1
      cases g1
      have rk : RelV (kV pk.1) key := by
        rw [g2]
        exact relV_key (show keyIs k key = true from f2)
      exact ⟨by show 2 ≤ sizeLine; decide, [key, x], .cons rk (.cons g3 .nil), ⟨_, f3, rfl, _, rfl⟩⟩
    · by_cases hb2 : b = s.heap.objs.size
      · rw [hb2] at q ⊢
        rw [eS] at q
        cases q
        refine ⟨by rw [List.length_map]; omega, acc.toList, c, by rw [hacc]; exact vals_refs as, ?_⟩
        rw [Array.toArray_toList]
        exact hS
      · rw [off b hb hb2] at q
        exact (I.hok b u q).stay (fun d v _ y => hk d v y) (fun d y => kp d _ y) fun d xs y => kp d _ y
theorem pe_listItemsT (hc : X.calm = true) (he : PE X e te) (hg : Gl X "list") (hm : X.mg "list" = none) (hv : bootBuiltins "list" = some (.type "list")) (hbase : attributeBase e "items" X.env (eval e X.env) = eval e X.env := by rfl) (hline : (apos.endLine == cpos.line) = true := by rfl)
    (hs : starEach [.Call (.Attribute e "items" apos) [] [] cpos] X.env = (false, eval (.Call (.Attribute e "items" apos) [] [] cpos) X.env) :: starEach [] X.env := by rfl) :
    PE X (.Call (.Name "list" p) [.Call (.Attribute e "items" apos) [] [] cpos] [] pos) (tListItemsT te) := by
  refine ⟨fun pins s σ H Q I hq => ?_⟩
  refine wpAny_Call_Name_kw (ld_blt I hg hm hv ?_)
  refine PyProof.Rows.callWith_type1 ?_ hs rfl
  rw [hs]
  show wpAny _ _ (spliced ((false, eval (.Call (.Attribute e "items" apos) [] [] cpos) X.env) :: backTo pos (starEach [] X.env))) _ _ s
  refine Calls.spliced_cons ?_
  refine wpAny_Call_method (T := "dict") (id := "dict.items") hbase rfl hline F.plainAttrs_dict F.slot_dict_items F.type_dict_items (thn (he.run pins s σ H _ I hq) fun u s1 ⟨x, H1, I1, rx, d, kvs, ex, hd, q⟩ => ?_)
  subst ex
  obtain rfl : u = Value.ref d := rx
  obtain ⟨hz, hs0, vs, kv, hdo⟩ := I1.hok d _ hd
  obtain ⟨ep, hat⟩ := hdo.dictAt
  have lk : kvs.length = vs.length := Paired.length kv
  have I2 : Inv X pins σ H1 { s1 with heap := s1.heap.push { cls := .type "dict_items", data := .fields #[.ref d] } } := I1.kept (t' := s1.toks) fun b ob q => Heap.get?_push_of_some _ q
  refine ⟨hdo.typeIs, hdo.mapOf.noDict, ?_⟩
  show wpAny _ _ (callWith cpos (.builtin "dict.items") [.ref d] [] []) _ X.xe s1
  refine method_meetsIn F.slot_dict_items F.entry_dict_items rfl (PySem.evalArgs_none ⟨rfl, hdo.typeIs, F.args_dict_items_1 _, _, meets_dict_items (mixKind X.prog X.w) d hs0, ⟨vs, hdo⟩, ?_⟩)
  refine Calls.spliced_nil ?_
  refine PySem.W.kdx_call (knd := mixKind X.prog X.w) (kvs := vs) (ep := ep) (I1.ok.hd hc) ⟨_, Heap.get?_push_size _ rfl, rfl, rfl⟩ (hat.push _) (by omega) fun h' tk acc c as hk hS hl hG hacc => ?_
  obtain ⟨H', k1, k2, k3, k4, k5, k6, k7, J⟩ := items_laidT (tk := tk) I2 hz kv hk hS hl hG hacc
  exact ⟨.ref _, H', J, rfl, q H' _ as k1 k2 k3 k4 k5 k6 k7⟩

/-! ### l.count(x) of data -/
def rCountD (K : PySem.W.Frag) : V → List V → Hp → VK → Prop := fun x xs H Q => ∃ (a : Addr) (y : V) (d : PyData) (ds : List PyData), x = V.ref a ∧ xs = [y] ∧ Dp K H (V.ref a) (.list ds) ∧ Dp K H y d ∧
  SeqAt.shaped (.list ds) = true ∧ SeqAt.shaped d = true ∧ Q (.int (ds.countP fun z => PyData.eqv z d : Nat)) H
theorem mt_countD (hu : X.A.units + 65 < cLine) : MtR X "list.count" (rCountD X.K) := by
  intro pins s σ H x xs v us Q I rx rxs h
  obtain ⟨a, y, d, ds, rfl, rfl, hl, hy, sl, sd, q⟩ := h
  cases rx
  obtain ⟨uy, rfl, ry⟩ := rxs.one
  obtain ⟨bs, r1⟩ := Dp.reads I d y uy hy ry
  have hxs : PyData.canLayAll0 ds = true := SeqAt.canLay_of_shaped sl
  have hroom : X.A.units + 1 + min (PyData.depthAll ds) d.depth < cLine := by
    have h1 := SeqAt.depth_of_shaped sd
    have h2 : min (PyData.depthAll ds) d.depth ≤ d.depth := Nat.min_le_right _ _
    omega
  cases hl with
  | lst hs ha =>
    obtain ⟨its, rv, ⟨⟨cls, dd, data, sls⟩, n, ho, hc, hdn, hdt⟩, hlen⟩ := I.list hs
    simp only at hc hdt
    subst hc hdt
    obtain ⟨as, h4⟩ := Dp.readsAll I ds _ its ha rv
    have hmap : its.map (SeqAt.readOf s.heap) = ds := SeqAt.readsAll_map ds its as hxs h4
    refine call_meets PySem.F.slot_list_count ⟨_, ho, rfl⟩ PySem.F.entry_list_count (PySem.F.args_list_count_2 _ _)
      (SeqAt.list_countAt a its.toArray n dd sls uy (fun u => PyData.eqv (SeqAt.readOf s.heap u) d)) ⟨ho, SeqAt.items_eqAt (vs := its.toArray) (show ReadsAll s.heap its.toArray.toList ds as from h4) r1 hxs (SeqAt.canLay_of_shaped sd) hroom, ?_⟩
    have ec : its.toArray.toList.countP (fun u => PyData.eqv (SeqAt.readOf s.heap u) d) = ds.countP fun z => PyData.eqv z d := by
      rw [← hmap, List.countP_map]
      rfl
    refine ⟨.int (ds.countP (fun z => PyData.eqv z d) : Nat), H, I.tok _, ⟨s.toks, ?_⟩, q⟩
    show Value.int _ s.toks = Value.int _ s.toks
    rw [ec]
end
end DLY

set_option Elab.async false
set_option linter.all false
set_option maxRecDepth 100000
set_option maxHeartbeats 4000000
/-! DLW: list(d.items()), l.count(x), unpacking, loops over what is owned. -/
namespace DL
open PySem PySem.Spec PyProof.Rows L2 Evl

theorem keysD_map : ∀ {ks : List D} {kk : List Key}, keysD ks = some kk → ks = kk.map kD
  | [], _, h => by cases h; rfl
  | d :: ks, kk, h => by
    have h : (match keyD d, keysD ks with | some k, some ks => some (k :: ks) | _, _ => none) = some kk := h
    cases q1 : keyD d with
    | none => rw [q1] at h; cases h
    | some k =>
      cases q2 : keysD ks with
      | none => rw [q1, q2] at h; cases h
      | some ks' =>
        rw [q1, q2] at h
        cases h
        rw [keysD_map q2]
        cases d <;> cases q1 <;> rfl
theorem items_rp {KK : PySem.W.Frag} {H' B' : Hp} : ∀ {kk : List Key} {ds : List D} {xs : List V} {ts : List Addr}, RpL KK B' ds xs → kk.length = xs.length → Paired (fun (t : Addr) (q : Key × V) => H' t = some (.tup [kV q.1, q.2])) ts (kk.zip xs) → (∀ t ∈ ts, B' t = H' t) →
    RpL KK B' (zipD (kk.map kD) ds) (ts.map V.ref)
  | [], ds, xs, ts, hr, hl, hp, hB => by
    cases hp
    exact rfl
  | k :: kk, [], xs, ts, hr, hl, hp, hB => by
    rw [show xs = [] from hr] at hl
    cases hl
  | k :: kk, d :: ds, _, ts, ⟨y, ys, e1, e2, e3⟩, hl, hp, hB => by
    subst e1
    cases hp with
    | @cons t _ ts _ h1 h2 =>
      refine ⟨.ref t, _, rfl, ⟨t, [kV k, y], rfl, .of ((hB t List.mem_cons_self).trans h1), kV k, [y], rfl, ?_, y, [], rfl, e2, rfl⟩, items_rp e3 (by simpa using hl) h2 fun t ht => hB t (List.mem_cons_of_mem _ ht)⟩
      cases k <;> rfl
section
variable {S : Sit} {n : Nat} {Γ : Slots} {K : Nat → Slots → OT → Prop} {pos p apos cpos : Pos}
/-- list(e.items()) -/
theorem he_items {e : Expr} (hm : S.X.mg "list" = none) (h : HE S e n Γ fun n1 Γ1 r => ∃ ks ds, r.d = .dct ks ds ∧ K n1 Γ1 (.ol ((zipD ks ds).map .frz))) (hc : S.X.calm = true := by rfl) (hg : Gl S.X "list" := by rfl)
    (hbase : attributeBase e "items" S.X.env (eval e S.X.env) = eval e S.X.env := by rfl) (hline : (apos.endLine == cpos.line) = true := by rfl)
    (hs : starEach [.Call (.Attribute e "items" apos) [] [] cpos] S.X.env = (false, eval (.Call (.Attribute e "items" apos) [] [] cpos) S.X.env) :: starEach [] S.X.env := by rfl) :
    HE S (.Call (.Name "list" p) [.Call (.Attribute e "items" apos) [] [] cpos] [] pos) n Γ K := by
  intro Δ σ vs H Q at0 q
  refine ⟨_, DLY.pe_listItemsT hc pe_c hg hm b_list hbase hline hs, h Δ σ vs H _ at0 fun n1 Γ1 r v H1 ⟨ks, ds, hr, hk⟩ a1 => ?_⟩
  have a1 := At.frz1 a1
  rw [hr] at a1
  obtain ⟨B, F, G, k1, a, xs, rfl, e1, kk, e2, e3, e4⟩ := At.open1 a1
  refine ⟨a, _, rfl, k1.evo.sub _ _ e4, fun H' p ts h1 h2 h3 h4 h5 h6 h7 => ?_⟩
  have hBn : ∀ t ∈ ts, B t = none := fun t ht => fresh_back k1.evo.sub (h3 t ht)
  have eB : Ex B (frzB H' B ts) := frzB_ex hBn
  have eH : Ex H1 H' := h1
  have g : Grow H1 B H' (frzB H' B ts) := ⟨eH, eB, fun b q1 q2 => by
    by_cases z : b ∈ ts
    · exact h3 b z
    · rw [frzB_out z] at q2; exact absurd q1 q2, frzB_sub (fun b o e => h1 b o (k1.evo.sub b o e)), fun b ps e => by
    by_cases z : b ∈ ts
    · rw [frzB_in z] at e
      exact absurd (k1.tab.all b ps (h7 b ps e)) (fun _ => by
        have := h7 b ps e
        rw [h3 b z] at this
        cases this)
    · rw [frzB_out z] at e; exact e, h7⟩
  have rp := items_rp (e1.mono eB) e3 h6 (fun t ht => frzB_in ht)
  rw [← keysD_map e2] at rp
  refine q n1 Γ1 _ (.ref p) H' hk ⟨_, F, [p] ++ G, k1.push (G1 := [p]) g ⟨p, ts.map V.ref, [], rfl, rfl, h5, RpOs.frzs rp⟩ (fun b hb => ?_) fun b => ?_⟩
  · have : b = p := by
      have := List.count_pos_iff.mp hb
      simpa using this
    subst this
    exact ⟨h2, by rw [frzB_out h4]; exact fresh_back k1.evo.sub h2⟩
  · rw [List.count_cons]
    simp
    split <;> omega
/-- o.count(e), o a list -/
theorem he_count {o e : Expr} (hu : S.X.A.units + 65 < cLine) (h : HE S o n Γ fun n1 Γ1 x => ∃ ds ps, x.d = .lst ds ∧ toPs ds = some ps ∧ SeqAt.shaped (.list ps) = true ∧ HE S e n1 Γ1 fun n2 Γ2 y => ∃ d q, y = .frz d ∧ toP d = some q ∧ SeqAt.shaped q = true ∧ K n2 Γ2 (.frz (.int (ps.countP fun z => PyData.eqv z q : Nat))))
    (hbase : attributeBase o "count" S.X.env (eval o S.X.env) = eval o S.X.env := by rfl)
    (hfew : ((backTo cpos (starEach (e :: []) S.X.env)).all (fun x => !x.1) && (backToKw cpos (keywordEach [] S.X.env)).all (fun x => x.1.isSome)
      && decide ((e :: []).length + ([] : List Keyword).length + (if ([] : List Keyword).isEmpty then 0 else 1) < 30)) = true := by rfl)
    (hline : (apos.endLine == cpos.line) = true := by rfl) (hs : starEach (e :: []) S.X.env = (false, eval e S.X.env) :: starEach [] S.X.env := by rfl) (hplain : (backTo cpos (starEach [] S.X.env)).any (·.1) = false := by rfl) :
    HE S (.Call (.Attribute o "count" apos) [e] [] cpos) n Γ K := by
  intro Δ σ vs H Q at0 q
  refine ⟨_, pe_bm PySem.F.plainAttrs_list PySem.F.slot_list_count PySem.F.type_list_count (DLY.mt_countD hu) pe_c (pa_cons pe_c pa_nil hs) hbase hfew hline hs hplain, h Δ σ vs H _ at0 fun n1 Γ1 x v H1 ⟨ds, ps, hx, hps, hsh, he⟩ a1 => ?_⟩
  have a1 := At.frz1 a1
  rw [hx] at a1
  obtain ⟨B, hB, a, xs, rfl, e1, e2⟩ := At.val a1
  refine ⟨.inl ⟨rfl, xs, .of (hB _ _ e1)⟩, he _ σ _ H1 _ a1 fun n2 Γ2 y w H2 ⟨d, pd, hy, hpd, hsd, hk⟩ a2 => ?_⟩
  subst hy
  obtain ⟨B2, F2, G2, a3⟩ := id a2
  obtain ⟨⟨a', xs', e3, e4, e5⟩, h2⟩ := a3.tm2
  cases e3
  refine ⟨a, w, pd, ps, rfl, rfl, .lst (.of (a3.evo.sub _ _ e4)) (RpL.dp a3.evo.sub hps e5), Rp.dp a3.evo.sub hpd h2, hsh, hsd, q n2 Γ2 _ _ H2 hk (At.two a2 fun _ => by exact rfl)⟩

/-! ### several names at once -/
/-- the parts of a new tuple go to names -/
def setAll (Γ : Slots) : List (Nat × OT) → Slots
  | [] => Γ
  | (i, t) :: r => setAll (Γ.set i (some t)) r
def gNames : List Nat → TGs
  | [] => gNil
  | i :: is => gCons (gName i) (gNames is)
theorem names_ok : ∀ (is : List Nat) {S : Sit} {n : Nat} {Γ : Slots} {ts : List OT} {Δ : List OT} {σ : L2.St} {ws vs : List V} {H : Hp} {Q : L2.St → Hp → Prop}, is.length = ts.length → ws.length = ts.length → (∀ i ∈ is, i < Γ.length ∧ S.E.P.getD i none = none) →
    S.At n Γ (ts ++ Δ) σ (ws ++ vs) H → (∀ σ' , S.At n (setAll Γ (is.zip ts)) Δ σ' vs H → Q σ' H) → gNames is ws σ H Q
  | [], S, n, Γ, ts, Δ, σ, ws, vs, H, Q, h1, h2, h3, a, q => by
    have e : ts = [] := List.length_eq_zero_iff.mp h1.symm
    subst e
    have e : ws = [] := List.length_eq_zero_iff.mp h2
    subst e
    exact ⟨rfl, q σ a⟩
  | i :: is, S, n, Γ, [], Δ, σ, ws, vs, H, Q, h1, h2, h3, a, q => by simp at h1
  | i :: is, S, n, Γ, t :: ts, Δ, σ, [], vs, H, Q, h1, h2, h3, a, q => by simp at h2
  | i :: is, S, n, Γ, t :: ts, Δ, σ, w :: ws, vs, H, Q, h1, h2, h3, a, q => by
    obtain ⟨B, F, G, a⟩ := a
    obtain ⟨F', G', a2⟩ := AtB.store (i := i) a (h3 i List.mem_cons_self).1 (h3 i List.mem_cons_self).2
    refine ⟨w, ws, rfl, names_ok is (S := S) (by simpa using h1) (by simpa using h2) (fun j hj => ?_) ⟨B, F', G', a2⟩ q⟩
    rw [List.length_set]
    exact h3 j (List.mem_cons_of_mem _ hj)
/-- a, b = x, y, plain names -/
theorem hs_par {P : Post} (i j : Nat) {x y : Str} {a b : Expr} {px py pt pt2 : Pos} {kt k2} (h : HA S [a, b] n Γ fun n1 Γ1 rs => ∃ t u, rs = [t, u] ∧ i < Γ1.length ∧ j < Γ1.length ∧ P.nx n1 ((Γ1.set i (some t)).set j (some u)))
    (hN : S.X.N.Nodup) (hi : S.X.N[i]? = some x) (hj : S.X.N[j]? = some y) (hij : i ≠ j) (hPi : S.E.P.getD i none = none) (hPj : S.E.P.getD j none = none) (hx : S.X.env.scope.names.lookup x = some .local := by rfl) (hy : S.X.env.scope.names.lookup y = some .local := by rfl) (hc : S.X.calm = true := by rfl)
    (hw : swappedStores [.Tuple [.Name x px, .Name y py] kt pt] (.Tuple [a, b] k2 pt2) S.X.env = pure (some [x, y]) := by rfl)
    (hs : swapsWithSole [.Tuple [.Name x px, .Name y py] kt pt] (.Tuple [a, b] k2 pt2) pos.line S.X.env = pure false := by rfl) : HS S (.Assign [.Tuple [.Name x px, .Name y py] kt pt] (.Tuple [a, b] k2 pt2) pos) n Γ P := by
  intro Δ σ vs H D at0 m
  refine ⟨_, ps_par hc hN hi hj hij hx hy pa_c hw hs, h Δ σ vs H _ at0 fun n1 Γ1 rs xs H1 ⟨t, u, e, h1, h2, hk⟩ hl a1 => ?_⟩
  subst e
  obtain ⟨v, w, rfl⟩ := two_of hl
  obtain ⟨B, F, G, a1⟩ := a1
  obtain ⟨F', G', a2⟩ := AtB.store (i := i) a1 h1 hPi
  obtain ⟨F', G', a3⟩ := AtB.store (i := j) a2 (by rw [List.length_set]; exact h2) hPj
  exact ⟨v, w, rfl, m.nx n1 _ _ H1 hk ⟨_, _, _, a3⟩⟩
theorem three_of {α : Type} {xs : List α} (h : xs.length = 3) : ∃ x y z, xs = [x, y, z] := by
  match xs, h with
  | [x, y, z], _ => exact ⟨x, y, z, rfl⟩
theorem hs_par3 {P : Post} (i j l : Nat) {x y z : Str} {a b c : Expr} {px py pz pt pt2 : Pos} {kt k2} (h : HA S [a, b, c] n Γ fun n1 Γ1 rs => ∃ t u w, rs = [t, u, w] ∧ i < Γ1.length ∧ j < Γ1.length ∧ l < Γ1.length ∧ P.nx n1 (((Γ1.set i (some t)).set j (some u)).set l (some w)))
    (hN : S.X.N.Nodup) (hi : S.X.N[i]? = some x) (hj : S.X.N[j]? = some y) (hl : S.X.N[l]? = some z) (hij : i ≠ j) (hil : i ≠ l) (hjl : j ≠ l) (hPi : S.E.P.getD i none = none) (hPj : S.E.P.getD j none = none) (hPl : S.E.P.getD l none = none)
    (hx : S.X.env.scope.names.lookup x = some .local := by rfl) (hy : S.X.env.scope.names.lookup y = some .local := by rfl) (hz : S.X.env.scope.names.lookup z = some .local := by rfl) (hc : S.X.calm = true := by rfl)
    (hw : swappedStores [.Tuple [.Name x px, .Name y py, .Name z pz] kt pt] (.Tuple [a, b, c] k2 pt2) S.X.env = pure (some [x, y, z]) := by rfl)
    (hs : swapsWithSole [.Tuple [.Name x px, .Name y py, .Name z pz] kt pt] (.Tuple [a, b, c] k2 pt2) pos.line S.X.env = pure false := by rfl) : HS S (.Assign [.Tuple [.Name x px, .Name y py, .Name z pz] kt pt] (.Tuple [a, b, c] k2 pt2) pos) n Γ P := by
  intro Δ σ vs H D at0 m
  refine ⟨_, ps_par3 hc hN hi hj hl hij hil hjl hx hy hz pa_c hw hs, h Δ σ vs H _ at0 fun n1 Γ1 rs xs H1 ⟨t, u, w, e, h1, h2, h3, hk⟩ hl a1 => ?_⟩
  subst e
  obtain ⟨v1, v2, v3, rfl⟩ := three_of hl
  obtain ⟨B, F, G, a1⟩ := a1
  obtain ⟨F', G', a2⟩ := AtB.store (i := i) a1 h1 hPi
  obtain ⟨F', G', a3⟩ := AtB.store (i := j) a2 (by rw [List.length_set]; exact h2) hPj
  obtain ⟨F', G', a4⟩ := AtB.store (i := l) a3 (by rw [List.length_set, List.length_set]; exact h3) hPl
  exact ⟨v1, v2, v3, rfl, m.nx n1 _ _ H1 hk ⟨_, _, _, a4⟩⟩
/-- (a, b, ..) = e, names -/
theorem hs_unp {P : Post} (is : List Nat) {es : List Expr} {e : Expr} {pt : Pos} {kt} (h : HE S e n Γ fun n1 Γ1 r => ∃ ts, (r = .ot ts ∨ ∃ ds, r = .frz (.tup ds) ∧ ts = ds.map .frz) ∧ is.length = ts.length ∧ (∀ i ∈ is, i < Γ1.length ∧ S.E.P.getD i none = none) ∧ P.nx n1 (setAll Γ1 (is.zip ts)))
    (hg : PGs S.X es (gNames is)) (hn : (assignEach es S.X.env).length = is.length := by rfl) (hst : (assignEach es S.X.env).findIdx? (·.1) = none := by rfl) (hc : S.X.calm = true := by rfl)
    (hs : swapsWithSole [.Tuple es kt pt] e pos.line S.X.env = pure false := by rfl) (hw : swappedStores [.Tuple es kt pt] e S.X.env = pure none := by rfl)
    (h1 : (assignEach [.Tuple es kt pt] S.X.env).map (·.2) = [assign (.Tuple es kt pt) S.X.env] := by rfl) : HS S (.Assign [.Tuple es kt pt] e pos) n Γ P := by
  intro Δ σ vs H D at0 m
  refine ⟨_, ps_asg pe_c (pg_tup hc hg hn hst) hs hw h1, h Δ σ vs H _ at0 fun n1 Γ1 r v H1 ⟨ts, hr, hl, hi, hk⟩ a1 => ?_⟩
  obtain ⟨a, xs, hv, hx, hxl, a2⟩ : ∃ a xs, v = .ref a ∧ SqT S.X.K H1 a xs ∧ xs.length = ts.length ∧ S.At n1 Γ1 (ts ++ Δ) σ (xs ++ vs) H1 := by
    rcases hr with hr | ⟨ds, hr, ht⟩
    · subst hr
      obtain ⟨B, F, G, a1⟩ := a1
      obtain ⟨y, ys, F1, F2, e1, e2, ⟨a, xs, G1, e3, e4, e5, e6⟩, e7⟩ := id a1.tm
      obtain ⟨rfl, rfl⟩ := List.cons.inj e1
      refine ⟨a, xs, e3, .of e5, e6.len, B, F, G1 ++ F2, a1.evo, a1.sl, RpOs.app e6 e7, fun b => ?_, fun b hb => a1.out b ?_, a1.str, a1.bst, a1.tab, a1.pin⟩
      · have := a1.nd b
        rw [e2, e4] at this
        simp only [List.count_append, List.count_cons] at this ⊢
        omega
      · rw [e2, e4]
        simp only [List.count_append, List.count_cons] at hb ⊢
        omega
    · subst hr ht
      obtain ⟨a, xs, h1, h2, h3, h4⟩ := a1.untup
      exact ⟨a, xs, h1, h2, by rw [h3, List.length_map], h4⟩
  exact ⟨a, xs, hv, hx, hxl.trans hl.symm, names_ok is (S := S) hl hxl hi a2 fun σ' a3 => m.nx n1 _ σ' H1 hk a3⟩
end
end DL

set_option Elab.async false
set_option linter.all false
set_option maxRecDepth 100000
set_option maxHeartbeats 4000000
/-! DLX: rules made short. -/
namespace DL
open PySem PySem.Spec PyProof.Rows L2 Evl
section
variable {S : Sit} {n : Nat} {Γ : Slots} {K : Nat → Slots → OT → Prop} {KB : Nat → Slots → Bool → Prop} {P : Post} {pos p p2 p3 p4 : Pos} {e : Expr}
/-- isinstance(e, T) -/
theorem he_isi {T : String} {x : Str} (f : D → Bool) (hf : ∀ d, isT [T] d = f d) (hv : bootBuiltins x = some (.type T)) (m1 : S.X.mg "isinstance" = none) (m2 : S.X.mg x = none) (h : HE S e n Γ fun n1 Γ1 r => ∃ d, r = .frz d ∧ plain d = true ∧ K n1 Γ1 (.frz (.bl (f d))))
    (hk : seven.all (fun t => (kitA t [T]).isSome) = true := by decide +kernel) (hg : Gl S.X "isinstance" := by rfl) (hg2 : Gl S.X x := by rfl) (hn : x ≠ "__name__" := by decide) (hdb : (x == ("__debug__" : Str)) = false := by decide)
    (he : starEach (e :: [.Name x p2]) S.X.env = (false, eval e S.X.env) :: starEach [.Name x p2] S.X.env := by rfl) (hpl : (backTo pos (starEach [.Name x p2] S.X.env)).any (·.1) = false := by rfl) (hs : starEach (.Name x p2 :: []) S.X.env = (false, eval (.Name x p2) S.X.env) :: starEach [] S.X.env := by rfl) :
    HE S (.Call (.Name "isinstance" p) [e, .Name x p2] [] pos) n Γ K := by
  refine he_fun b_isinstance m1 (ha_cons (h.mono fun n1 Γ1 r ⟨d, hr, hp, hk2⟩ => ?_) he) hg (by decide) (by decide) he hpl
  subst hr
  refine ha_cons (he_ty hv m2 (ha_nil (hf_isK1 hp ?_ hk)) hg2 hn hdb) hs
  rw [hf]
  exact hk2
/-- isinstance(e, (list, tuple)) -/
theorem he_isRow {x1} (m1 : S.X.mg "isinstance" = none) (m2 : S.X.mg "list" = none) (m3 : S.X.mg "tuple" = none) (h : HE S e n Γ fun n1 Γ1 r => ∃ d, r = .frz d ∧ plain d = true ∧ K n1 Γ1 (.frz (.bl (isRow d))))
    (hg : Gl S.X "isinstance" := by rfl) (hg2 : Gl S.X "list" := by rfl) (hg3 : Gl S.X "tuple" := by rfl)
    (he : starEach (e :: [.Tuple [.Name "list" p2, .Name "tuple" p3] x1 p4]) S.X.env = (false, eval e S.X.env) :: starEach [.Tuple [.Name "list" p2, .Name "tuple" p3] x1 p4] S.X.env := by rfl) (hpl : (backTo pos (starEach [.Tuple [.Name "list" p2, .Name "tuple" p3] x1 p4] S.X.env)).any (·.1) = false := by rfl)
    (hs : starEach (.Tuple [.Name "list" p2, .Name "tuple" p3] x1 p4 :: []) S.X.env = (false, eval (.Tuple [.Name "list" p2, .Name "tuple" p3] x1 p4) S.X.env) :: starEach [] S.X.env := by rfl)
    (hs1 : starEach (.Name "list" p2 :: [.Name "tuple" p3]) S.X.env = (false, eval (.Name "list" p2) S.X.env) :: starEach [.Name "tuple" p3] S.X.env := by rfl) (hs2 : starEach (.Name "tuple" p3 :: []) S.X.env = (false, eval (.Name "tuple" p3) S.X.env) :: starEach [] S.X.env := by rfl) :
    HE S (.Call (.Name "isinstance" p) [e, .Tuple [.Name "list" p2, .Name "tuple" p3] x1 p4] [] pos) n Γ K := by
  refine he_fun b_isinstance m1 (ha_cons (h.mono fun n1 Γ1 r ⟨d, hr, hp, hk2⟩ => ?_) he) hg (by decide) (by decide) he hpl
  subst hr
  refine ha_cons (he_tup (ha_cons (he_ty b_list m2 (ha_cons (he_ty b_tuple m3 (ha_nil ⟨by decide, ha_nil (hf_isK (Ts := ["list", "tuple"]) hp ?_)⟩) hg3) hs2) hg2) hs1)) hs
  rw [T_isRow]
  exact hk2
/-- a test by a bool -/
theorem ht_bl (h : HE S e n Γ fun n1 Γ1 r => ∃ b, r = .frz (.bl b) ∧ KB n1 Γ1 b) (he : ∀ whole, isTrue e S.X.env whole = (do let v ← whole; standAt e.pos; holding [v] (truthy v)) := by intro _; rfl) : HT S e n Γ KB :=
  ht_val (h.mono fun n1 Γ1 r ⟨b, hr, hk⟩ => ⟨b, by rw [hr]; rfl, hk⟩) he
/-- a slot's frozen thing -/
theorem he_v (i : Nat) {x : Str} {d : D} (hN : S.X.N[i]? = some x) (he : Γ[i]? = some (some (.frz d))) (k : K n Γ (.frz d)) (hv : Vis S.X.env.scope x := by first | exact .inl rfl | exact .inr (.inl rfl) | exact .inr (.inr rfl))
    (hd : (x == ("__debug__" : Str)) = false := by decide) (hcd : (x == ("__classdict__" : Str)) = false := by decide) : HE S (.Name x pos) n Γ K := he_var i hN hv he k hd hcd
/-- f(a), f(a, b) of a def of frozen things -/
theorem he_c1 {x : Str} {ps : List Str} {R : PSpec} {k : Nat} {a : Expr} (O : OkF S.X.prog S.X.w S.X.K S.X.mg S.X.base S.Z k x ps (pureSp R)) (hr : Room k S.X.A) (hps : ps.length = 1)
    (h : HE S a n Γ fun n1 Γ1 r => R [r.d] n1 (fun n' r => K n' Γ1 r) fun n' C ns ds => S.XP n' Γ1 C ns ds) (hg : Gl S.X x := by rfl)
    (hdb : (x == ("__debug__" : Str)) = false := by decide) (he : starEach (a :: []) S.X.env = (false, eval a S.X.env) :: starEach [] S.X.env := by rfl) (hpl : (backTo pos (starEach [] S.X.env)).any (·.1) = false := by rfl) : HE S (.Call (.Name x p) [a] [] pos) n Γ K :=
  he_callP O hr (ha_cons (h.mono fun n1 Γ1 r hk => ha_nil ⟨hps.symm, hk⟩) he) hg hdb he hpl
theorem he_c2 {x : Str} {ps : List Str} {R : PSpec} {k : Nat} {a b : Expr} (O : OkF S.X.prog S.X.w S.X.K S.X.mg S.X.base S.Z k x ps (pureSp R)) (hr : Room k S.X.A) (hps : ps.length = 2)
    (h : HE S a n Γ fun n1 Γ1 r => HE S b n1 Γ1 fun n2 Γ2 q => R [r.d, q.d] n2 (fun n' r => K n' Γ2 r) fun n' C ns ds => S.XP n' Γ2 C ns ds) (hg : Gl S.X x := by rfl)
    (hdb : (x == ("__debug__" : Str)) = false := by decide) (he : starEach (a :: [b]) S.X.env = (false, eval a S.X.env) :: starEach [b] S.X.env := by rfl) (he2 : starEach (b :: []) S.X.env = (false, eval b S.X.env) :: starEach [] S.X.env := by rfl) (hpl : (backTo pos (starEach [b] S.X.env)).any (·.1) = false := by rfl) : HE S (.Call (.Name x p) [a, b] [] pos) n Γ K :=
  he_callP O hr (ha_cons (h.mono fun n1 Γ1 r hk => ha_cons (hk.mono fun n2 Γ2 q hk => ha_nil ⟨hps.symm, hk⟩) he2) he) hg hdb he hpl
theorem he_c3 {x : Str} {ps : List Str} {R : PSpec} {k : Nat} {a b c : Expr} (O : OkF S.X.prog S.X.w S.X.K S.X.mg S.X.base S.Z k x ps (pureSp R)) (hr : Room k S.X.A) (hps : ps.length = 3)
    (h : HE S a n Γ fun n1 Γ1 r => HE S b n1 Γ1 fun n2 Γ2 q => HE S c n2 Γ2 fun n3 Γ3 w => R [r.d, q.d, w.d] n3 (fun n' r => K n' Γ3 r) fun n' C ns ds => S.XP n' Γ3 C ns ds) (hg : Gl S.X x := by rfl)
    (hdb : (x == ("__debug__" : Str)) = false := by decide) (he : starEach (a :: [b, c]) S.X.env = (false, eval a S.X.env) :: starEach [b, c] S.X.env := by rfl) (he2 : starEach (b :: [c]) S.X.env = (false, eval b S.X.env) :: starEach [c] S.X.env := by rfl) (he3 : starEach (c :: []) S.X.env = (false, eval c S.X.env) :: starEach [] S.X.env := by rfl) (hpl : (backTo pos (starEach [b, c] S.X.env)).any (·.1) = false := by rfl) : HE S (.Call (.Name x p) [a, b, c] [] pos) n Γ K :=
  he_callP O hr (ha_cons (h.mono fun n1 Γ1 r hk => ha_cons (hk.mono fun n2 Γ2 q hk => ha_cons (hk.mono fun n3 Γ3 w hk => ha_nil ⟨hps.symm, hk⟩) he3) he2) he) hg hdb he hpl
/-- a built-in function of one thing -/
theorem he_f1 {id : String} {x : Str} (hv : bootBuiltins x = some (.builtin id)) (hm : S.X.mg x = none) (h : HE S e n Γ fun n1 Γ1 r => HF S (.builtin id) [r] n1 Γ1 K)
    (hg : Gl S.X x := by rfl) (hn : x ≠ "__name__" := by decide) (hdb : (x == ("__debug__" : Str)) = false := by decide)
    (he : starEach (e :: []) S.X.env = (false, eval e S.X.env) :: starEach [] S.X.env := by rfl) (hpl : (backTo pos (starEach [] S.X.env)).any (·.1) = false := by rfl) : HE S (.Call (.Name x p) [e] [] pos) n Γ K :=
  he_fun hv hm (ha_cons (h.mono fun n1 Γ1 r hk => ha_nil hk) he) hg hn hdb he hpl
theorem he_t1 {T : String} {x : Str} (hv : bootBuiltins x = some (.type T)) (hm : S.X.mg x = none) (h : HE S e n Γ fun n1 Γ1 r => HF S (.type T) [r] n1 Γ1 K)
    (hg : Gl S.X x := by rfl) (hn : x ≠ "__name__" := by decide) (hdb : (x == ("__debug__" : Str)) = false := by decide)
    (he : starEach (e :: []) S.X.env = (false, eval e S.X.env) :: starEach [] S.X.env := by rfl) (hpl : (backTo pos (starEach [] S.X.env)).any (·.1) = false := by rfl) : HE S (.Call (.Name x p) [e] [] pos) n Γ K :=
  he_type hv hm (ha_cons (h.mono fun n1 Γ1 r hk => ha_nil hk) he) hg hn hdb he hpl
/-- all([..]) -/
theorem hf_allM {zs : List D} {f : D → Bool} (hc : S.X.calm = true) (k : K n Γ (.frz (.bl (zs.all f)))) : HF S (.builtin "all") [.ol (zs.map fun d => .frz (.bl (f d)))] n Γ K := by
  refine hf_frz1 ?_
  have e : (OT.ol (zs.map fun d => OT.frz (.bl (f d)))).d = .lst ((zs.map f).map .bl) := by
    show D.lst (OT.ds _) = _
    rw [OT.ds_map, List.map_map, List.map_map]
    rfl
  rw [e]
  refine hf_all hc ?_
  have e2 : (zs.map f).all id = zs.all f := by rw [List.all_map]; rfl
  rw [e2]
  exact k
theorem zipD_self {as : List D} {e : D} (h : e ∈ zipD as as) : ∃ c ∈ as, e = .tup [c, c] := by
  obtain ⟨i, hi⟩ := List.getElem?_of_mem h
  obtain ⟨d, c, h1, h2, h3⟩ := zipD_at hi
  rw [h1] at h2
  cases h2
  exact ⟨d, List.mem_of_getElem? h1, h3⟩
theorem zipD_len (as bs : List D) : (zipD as bs).length = min as.length bs.length := by unfold zipD; rw [List.length_map, List.length_zip]
end
end DL

set_option Elab.async false
set_option linter.all false
set_option maxRecDepth 100000
set_option maxHeartbeats 4000000
/-! DLZ: a loop over an owned list whose items are lent to the body. -/
namespace DL
open PySem PySem.Spec PyProof.Rows L2 Evl

def addPin : List (Option V) → Nat → V → List (Option V)
  | [], 0, v => [some v]
  | [], i + 1, v => none :: addPin [] i v
  | _ :: P, 0, v => some v :: P
  | p :: P, i + 1, v => p :: addPin P i v
theorem PinS.nil_add : ∀ {i : Nat} {v : V} {σ : L2.St}, σ[i]? = some (some v) → PinS (addPin [] i v) σ
  | 0, v, [], h => by simp at h
  | 0, v, x :: σ, h => ⟨by simpa using h, True.intro⟩
  | i + 1, v, [], h => by simp at h
  | i + 1, v, x :: σ, h => PinS.nil_add (i := i) (σ := σ) (by simpa using h)
theorem PinS.add : ∀ {P : List (Option V)} {i : Nat} {v : V} {σ : L2.St}, PinS P σ → P.getD i none = none → σ[i]? = some (some v) → PinS (addPin P i v) σ
  | [], i, v, σ, _, _, h => PinS.nil_add h
  | none :: P, 0, v, [], hp, hg, h => by simp at h
  | none :: P, 0, v, x :: σ, hp, hg, h => ⟨by simpa using h, hp⟩
  | some u :: P, 0, v, σ, hp, hg, h => by simp at hg
  | none :: P, i + 1, v, [], hp, hg, h => by simp at h
  | none :: P, i + 1, v, x :: σ, hp, hg, h => PinS.add (P := P) (σ := σ) hp (by simpa using hg) (by simpa using h)
  | some u :: P, i + 1, v, [], hp, hg, h => by simp at h
  | some u :: P, i + 1, v, x :: σ, hp, hg, h => ⟨hp.1, PinS.add (P := P) (σ := σ) hp.2 (by simpa using hg) (by simpa using h)⟩
theorem PinS.nil_rem : ∀ {i : Nat} {v : V} {σ : L2.St}, PinS (addPin [] i v) σ → σ[i]? = some (some v)
  | 0, v, [], h => by cases h.1
  | 0, v, x :: σ, h => by have := h.1; simpa using this
  | i + 1, v, [], h => by
    have := PinS.nil_rem (i := i) (σ := []) h
    simp at this
  | i + 1, v, x :: σ, h => by simpa using PinS.nil_rem (i := i) (σ := σ) h
theorem PinS.rem : ∀ {P : List (Option V)} {i : Nat} {v : V} {σ : L2.St}, PinS (addPin P i v) σ → P.getD i none = none → PinS P σ ∧ σ[i]? = some (some v)
  | [], i, v, σ, h, _ => ⟨True.intro, PinS.nil_rem h⟩
  | none :: P, 0, v, [], h, hg => by cases h.1
  | none :: P, 0, v, x :: σ, h, hg => ⟨h.2, by have := h.1; simpa using this⟩
  | some u :: P, 0, v, σ, h, hg => by simp at hg
  | none :: P, i + 1, v, [], h, hg => by
    obtain ⟨h1, h2⟩ := PinS.rem (P := P) (σ := []) h (by simpa using hg)
    simp at h2
  | none :: P, i + 1, v, x :: σ, h, hg => by
    obtain ⟨h1, h2⟩ := PinS.rem (P := P) (σ := σ) h (by simpa using hg)
    exact ⟨h1, by simpa using h2⟩
  | some u :: P, i + 1, v, [], h, hg => by cases h.1
  | some u :: P, i + 1, v, x :: σ, h, hg => by
    obtain ⟨h1, h2⟩ := PinS.rem (P := P) (σ := σ) h.2 (by simpa using hg)
    exact ⟨⟨h.1, h1⟩, by simpa using h2⟩
theorem PinS.get : ∀ {P : List (Option V)} {i : Nat} {v : V} {σ : L2.St}, PinS P σ → P[i]? = some (some v) → σ[i]? = some (some v)
  | [], i, v, σ, _, h => by simp at h
  | none :: P, 0, v, σ, hp, h => by simp at h
  | some u :: P, 0, v, [], hp, h => by cases hp.1
  | some u :: P, 0, v, x :: σ, hp, h => by
    have h1 : x = some u := by have := hp.1; simpa using this
    have h2 : u = v := by simpa using h
    rw [h1, h2]; rfl
  | none :: P, i + 1, v, [], hp, h => by
    have := PinS.get (P := P) (σ := []) hp (by simpa using h)
    simp at this
  | none :: P, i + 1, v, x :: σ, hp, h => by simpa using PinS.get (P := P) (σ := σ) hp (by simpa using h)
  | some u :: P, i + 1, v, [], hp, h => by cases hp.1
  | some u :: P, i + 1, v, x :: σ, hp, h => by simpa using PinS.get (P := P) (σ := σ) hp.2 (by simpa using h)
section
variable {Z : Wd} {E : Ent} {n : Nat} {Γ : Slots} {Δ : List OT} {σ : L2.St} {vs : List V} {H B : Hp} {F G : List Addr}
/-- an item is taken out of the owned list in a slot; its place is kept -/
theorem AtB.takeOut {i k : Nat} {ts : List OT} {t : OT} (h : AtB Z E n Γ Δ σ vs H B F G) (e : Γ[i]? = some (some (.ol ts))) (ek : ts[k]? = some t) :
    ∃ a xs v F' G', σ[i]? = some (some (.ref a)) ∧ H a = some (.lst xs) ∧ xs.length = ts.length ∧ xs[k]? = some v ∧ AtB Z E n (Γ.set i (some (.ol (ts.set k (.frz (.opq v)))))) (t :: Δ) σ (v :: vs) H B F' G' := by
  obtain ⟨w, F1, F2, F3, h1, h2, ⟨a, xs, G1, rfl, e2, e3, e4⟩, h4, _⟩ := h.sl.at e
  obtain ⟨v, K1, K2, K3, z1, z2, z3, z4⟩ := RpOs.at e4 ek
  have q := z4 (Ex.refl B) (fun _ _ _ e => e) (.frz (.opq v)) v [] ⟨rfl, rfl⟩
  rw [set_self z1] at q
  refine ⟨a, xs, v, F1 ++ ((a :: (K1 ++ ([] ++ K3))) ++ F3), K2 ++ G, h1, e3, e4.len, z1, h.evo, h4 (Ex.refl B) (fun _ _ _ e => e) _ _ ⟨a, xs, _, rfl, rfl, e3, q⟩, ⟨v, vs, K2, G, rfl, rfl, z3, h.tm⟩, fun b => ?_, fun b hb => h.out b ?_, h.str, h.bst, h.tab, h.pin⟩
  · have := h.nd b
    rw [h2, e2, z2] at this
    simp only [List.count_append, List.count_cons, List.count_nil] at this ⊢
    omega
  · rw [h2, e2, z2]
    simp only [List.count_append, List.count_cons, List.count_nil] at hb ⊢
    omega
/-- it goes back -/
theorem AtB.putIn {i k : Nat} {ts : List OT} {t : OT} {v : V} (h : AtB Z E n Γ (t :: Δ) σ (v :: vs) H B F G) (e : Γ[i]? = some (some (.ol ts))) (ek : ts[k]? = some (.frz (.opq v))) : ∃ F' G', AtB Z E n (Γ.set i (some (.ol (ts.set k t)))) Δ σ vs H B F' G' := by
  obtain ⟨y, ys, K4, G2, q1, q2, q3, q4⟩ := id h.tm
  obtain ⟨rfl, rfl⟩ := List.cons.inj q1
  obtain ⟨w, F1, F2, F3, h1, h2, ⟨a, xs, G1, rfl, e2, e3, e4⟩, h4, _⟩ := h.sl.at e
  obtain ⟨v', K1, K2, K3, z1, z2, z3, z4⟩ := RpOs.at e4 ek
  obtain ⟨z5, z6⟩ := z3
  have z6 : v' = v := z6
  subst z5 z6
  have q := z4 (Ex.refl B) (fun _ _ _ e => e) t v' K4 q3
  rw [set_self z1] at q
  refine ⟨F1 ++ ((a :: (K1 ++ (K4 ++ K3))) ++ F3), G2, h.evo, h4 (Ex.refl B) (fun _ _ _ e => e) _ _ ⟨a, xs, _, rfl, rfl, e3, q⟩, q4, fun b => ?_, fun b hb => h.out b ?_, h.str, h.bst, h.tab, h.pin⟩
  · have := h.nd b
    rw [h2, e2, z2, q2] at this
    simp only [List.count_append, List.count_cons, List.count_nil] at this ⊢
    omega
  · rw [h2, e2, z2, q2]
    simp only [List.count_append, List.count_cons, List.count_nil] at hb ⊢
    omega
end
theorem set_none_self {Γ : Slots} {j : Nat} (h : Γ[j]? = some none) : Γ.set j none = Γ := set_self h
theorem cur_get {ts : List OT} {f : OT → OT} {k : Nat} {t : OT} (h : ts[k]? = some t) : ((ts.take k).map f ++ ts.drop k)[k]? = some t := by
  have hk : k < ts.length := (List.getElem?_eq_some_iff.mp h).1
  rw [List.getElem?_append_right (by rw [List.length_map, List.length_take]; omega), List.length_map, List.length_take, List.getElem?_drop]
  rw [show k + (k - min k ts.length) = k by omega]
  exact h
theorem cur_set {ts : List OT} {f : OT → OT} {k : Nat} {t : OT} (h : ts[k]? = some t) : ((ts.take k).map f ++ ts.drop k).set k (f t) = (ts.take (k + 1)).map f ++ ts.drop (k + 1) := by
  have hk : k < ts.length := (List.getElem?_eq_some_iff.mp h).1
  have hl : ((ts.take k).map f).length = k := by rw [List.length_map, List.length_take]; omega
  rw [List.set_append_right _ _ (by omega), hl, Nat.sub_self, List.take_add_one, h, List.map_append, List.append_assoc]
  congr 1
  have e : ts.drop k = t :: ts.drop (k + 1) := by
    rw [List.drop_eq_getElem_cons hk]
    congr 1
    exact (List.getElem?_eq_some_iff.mp h).2
  rw [e]
  rfl
/-- for y in x: x an owned list, each item lent to the body -/
theorem hs_forO {S : Sit} {n : Nat} {Γ : Slots} {P : Post} {pos px py : Pos} (i j : Nat) {x y : Str} {body : List Stmt} {ts : List OT} (f : OT → OT) (hij : i ≠ j) (h0 : Γ[i]? = some (some (.ol ts))) (hj : Γ[j]? = some none) (hpi : ∃ v, S.E.P[i]? = some (some v)) (hpj : S.E.P.getD j none = none)
    (hb : ∀ E' xo' (t : OT) (rs : List OT), t ∈ ts → HSs (S.at E' xo') body n ((Γ.set i (some (.ol rs))).set j (some t)) { nx := fun n' Γ' => n' = n ∧ Γ' = (Γ.set i (some (.ol rs))).set j (some (f t)), rt := fun _ _ _ => False })
    (hk : P.nx n (Γ.set i (some (.ol (ts.map f))))) (hN : S.X.N.Nodup) (hNi : S.X.N[i]? = some x) (hNj : S.X.N[j]? = some y) (hvx : Vis S.X.env.scope x) (hvy : Loc S.X.env.scope y) (hc : S.X.calm = true := by rfl) (hst : ∀ z, foldedSetIterable (.Name x px) S.X.env z = pure z := by intro _; rfl)
    (hd : (x == ("__debug__" : Str)) = false := by decide) (hcd : (x == ("__classdict__" : Str)) = false := by decide) (hf : S.X.fn y = true ∨ S.X.env.scope.names.lookup y = some .local := by first | exact .inl rfl | exact .inr rfl | assumption) : HS S (.For (.Name y py) (.Name x px) body [] pos) n Γ P := by
  intro Δ σ vs H D ⟨B, F, G, a⟩ m
  have hil : i < Γ.length := (List.getElem?_eq_some_iff.mp h0).1
  have hjl : j < Γ.length := (List.getElem?_eq_some_iff.mp hj).1
  obtain ⟨v0, F1, F2, F3, s1, s2, ⟨l, xs0, G1, rfl, e2, e3, e4⟩, _⟩ := a.sl.at h0
  obtain ⟨w, hw⟩ := hpi
  have pin_i : ∀ {σ : L2.St}, PinS S.E.P σ → σ[i]? = some (some (.ref l)) := fun hp => by
    have h1 := a.pin.get hw
    rw [s1] at h1
    have h2 := hp.get hw
    rw [h2, Option.some.inj h1]
  let Γk : Nat → Slots := fun k => Γ.set i (some (.ol ((ts.take k).map f ++ ts.drop k)))
  have gk : ∀ k, Γk k = Γ.set i (some (.ol ((ts.take k).map f ++ ts.drop k))) := fun _ => rfl
  have gj : ∀ (X : Option OT), (Γ.set i X)[j]? = some none := fun X => by rw [List.getElem?_set_ne hij]; exact hj
  have gi : ∀ (X : Option OT), (Γ.set i X)[i]? = some X := fun X => List.getElem?_set_self hil
  refine ⟨_, ps_for S.po hc (pi_list (pe_var hNi hvx hd hcd)) (pg_name hN hNj hvy hf) pss_c hst, _, s1, l, rfl, ⟨xs0, .of e3⟩, ?_⟩
  refine ⟨fun k r σ H => k + r = ts.length ∧ S.At n (Γk k) Δ σ vs H, ⟨ts.length, by omega, ?_⟩, fun k r σ1 H1 ⟨e, B1, F1', G1', a1⟩ => ?_⟩
  · have e0 : Γk 0 = Γ := by
      rw [gk]
      show Γ.set i (some (.ol ([] ++ ts))) = Γ
      exact set_self h0
    rw [e0]
    exact ⟨B, F, G, a⟩
  by_cases q : k < ts.length
  · have ek : ts[k]? = some ts[k] := List.getElem?_eq_getElem q
    obtain ⟨a', xs, v, F4, G4, t1, t2, t3, t4, t5⟩ := a1.takeOut (gi _) (cur_get (f := f) ek)
    have : a' = l := by
      have := pin_i a1.pin
      rw [this] at t1
      exact (V.ref.inj (Option.some.inj (Option.some.inj t1))).symm
    subst this
    refine .inr ⟨⟨xs, v, .of t2, t4⟩, fun σ' H' => S.At n (Γk (k + 1)) Δ σ' vs H', fun σ' H' h => ⟨r - 1, by omega, by omega, h⟩, fun x' H2 hy => ?_⟩
    obtain ⟨y1, y2⟩ := hy
    have y3 := y2 xs (.of t2)
    rw [t4] at y3
    cases y3
    rw [y1]
    rw [gk, List.set_set] at t5
    obtain ⟨F5, G5, a2⟩ := AtB.store (i := j) t5 (by rw [List.length_set]; exact hjl) hpj
    -- the body, the item's slot pinned
    have hσj : (σ1.set j (some v))[j]? = some (some v) := List.getElem?_set_self (by rw [a1.len]; rw [gk, List.length_set]; exact hjl)
    let E' : Ent := ⟨S.E.H, S.E.B, S.E.M, addPin S.E.P j v⟩
    have toE : ∀ {n Γ Δ σ vs H B F G}, AtB S.Z S.E n Γ Δ σ vs H B F G → σ[j]? = some (some v) → AtB S.Z E' n Γ Δ σ vs H B F G := fun h hs => ⟨⟨h.evo.ex, h.evo.tb, h.evo.exB, h.evo.new, h.evo.sub⟩, h.sl, h.tm, h.nd, h.out, h.str, h.bst, h.tab, h.pin.add hpj hs⟩
    have ofE : ∀ {n Γ Δ σ vs H B F G}, AtB S.Z E' n Γ Δ σ vs H B F G → AtB S.Z S.E n Γ Δ σ vs H B F G ∧ σ[j]? = some (some v) := fun h => by
      obtain ⟨p1, p2⟩ := PinS.rem h.pin hpj
      exact ⟨⟨⟨h.evo.ex, h.evo.tb, h.evo.exB, h.evo.new, h.evo.sub⟩, h.sl, h.tm, h.nd, h.out, h.str, h.bst, h.tab, p1⟩, p2⟩
    refine hb E' (fun n' Γ' C ns ds d σ' H2 B2 F2 a ed hx => S.xo n' Γ' C ns ds d σ' H2 B2 F2 (ofE a).1 ed hx) ts[k] _ (List.getElem_mem q) Δ _ vs H1 _ ⟨_, _, _, toE a2 hσj⟩ ⟨fun n' Γ' σ' H' ⟨en, eΓ⟩ ⟨B3, F6, G6, a3⟩ => ?_, fun n' Γ' r σ' v H' h => h.elim, fun _ _ _ _ h => h.elim, fun _ _ _ _ h => h.elim⟩
    subst en eΓ
    obtain ⟨a4, pj⟩ := ofE a3
    obtain ⟨F7, G7, v', w1, a5⟩ := a4.move (i := j) (List.getElem?_set_self (by rw [List.length_set]; exact hjl))
    rw [pj] at w1
    obtain rfl : v = v' := Option.some.inj (Option.some.inj w1)
    rw [List.set_set, set_none_self (gj _)] at a5
    obtain ⟨F8, G8, a6⟩ := a5.putIn (k := k) (gi _) (List.getElem?_set_self (by
      have := (List.getElem?_eq_some_iff.mp (cur_get (f := f) ek)).1
      exact this))
    rw [List.set_set, List.set_set, cur_set ek] at a6
    exact ⟨_, _, _, a6⟩
  · have e5 : k = ts.length := by omega
    subst e5
    obtain ⟨v1, K1, K2, K3, u1, u2, ⟨l', xs, G9, u3, u4, u5, u6⟩, _⟩ := a1.sl.at (gi _)
    have : l' = l := by
      have := pin_i a1.pin
      rw [this] at u1
      have e6 := Option.some.inj (Option.some.inj u1)
      rw [u3] at e6
      exact (V.ref.inj e6).symm
    subst this
    refine .inl ⟨⟨xs, .of u5, ?_⟩, m.nx n _ σ1 H1 ?_ ⟨B1, F1', G1', a1⟩⟩
    · rw [u6.len, List.length_append, List.length_map, List.length_take, List.length_drop]
      omega
    · rw [gk, List.take_length, List.drop_length, List.append_nil]
      exact hk
end DL

set_option Elab.async false
set_option linter.all false
set_option maxRecDepth 100000
set_option maxHeartbeats 4000000
/-! DM1: lists of texts, tests against an empty list. -/
namespace DL
open PySem PySem.Spec PyProof.Rows L2 Evl
/-- a text that the model can lay -/
def txtOk (x : Str) : Bool := PyData.canLay0 (.str x) && decide (x.length ≤ 100000)
theorem txtOk_lay {x : Str} (h : txtOk x = true) : PyData.canLay0 (.str x) = true := (Bool.and_eq_true_iff.mp h).1
theorem txtOk_len {x : Str} (h : txtOk x = true) : x.length ≤ 100000 := of_decide_eq_true (Bool.and_eq_true_iff.mp h).2
theorem txtOk_line {x : Str} (h : txtOk x = true) : x.length ≤ sizeLine := by
  rw [sizeLine_eq]
  have := txtOk_len h
  omega
theorem toPs_strs : ∀ xs : List Str, toPs (xs.map D.str) = some (xs.map PyData.str)
  | [] => rfl
  | x :: xs => by
    show (match toP (.str x), toPs (xs.map D.str) with | some p, some ps => some (p :: ps) | _, _ => none) = _
    rw [toPs_strs xs]
    rfl
theorem lay_strs : ∀ {xs : List Str}, (∀ x ∈ xs, PyData.canLay0 (.str x) = true) → PyData.canLayAll0 (xs.map PyData.str) = true
  | [], _ => rfl
  | x :: xs, h => by
    show (PyData.canLay0 (.str x) && PyData.canLayAll0 (xs.map PyData.str)) = true
    rw [h x List.mem_cons_self, lay_strs fun y hy => h y (List.mem_cons_of_mem _ hy)]
    rfl
theorem dep_strs : ∀ xs : List Str, PyData.depthAll (xs.map PyData.str) = 0
  | [] => rfl
  | x :: xs => by
    show max (PyData.depth (.str x)) (PyData.depthAll (xs.map PyData.str)) = 0
    rw [dep_strs xs]; rfl
theorem sh_strs {xs : List Str} (h : ∀ x ∈ xs, PyData.canLay0 (.str x) = true) : SeqAt.shaped (.list (xs.map PyData.str)) = true := by
  show (PyData.canLayAll0 (xs.map PyData.str) && decide (PyData.depthAll (xs.map PyData.str) + 1 ≤ 64)) = true
  rw [lay_strs h, dep_strs]; rfl
theorem eqv_nil {ps : List PyData} : PyData.eqv (.list ps) (.list []) = ps.isEmpty := by
  cases ps <;> rfl
section
variable {S : Sit} {n : Nat} {Γ : Slots} {K : Nat → Slots → OT → Prop} {pos p : Pos}
/-- [..] != [], a list of texts -/
theorem o_neNil {xs : List Str} (h : ∀ x ∈ xs, PyData.canLay0 (.str x) = true) (hu : S.X.A.units + 64 < cLine) (k : K n Γ (.frz (.bl (!xs.isEmpty)))) : HO2 S (cC S.X .NotEq) n Γ (.frz (.lst (xs.map .str))) (.frz (.lst [])) K := by
  refine o_neD (p := .list (xs.map .str)) (q := .list []) (by show (toPs _).map PyData.list = _; rw [toPs_strs]; rfl) rfl (sh_strs h) rfl hu ?_
  rw [eqv_nil, List.isEmpty_map]
  exact k
theorem o_eqNil {xs : List Str} (h : ∀ x ∈ xs, PyData.canLay0 (.str x) = true) (hu : S.X.A.units + 64 < cLine) (k : K n Γ (.frz (.bl xs.isEmpty))) : HO2 S (cC S.X .Eq) n Γ (.frz (.lst (xs.map .str))) (.frz (.lst [])) K := by
  refine o_eqD (p := .list (xs.map .str)) (q := .list []) (by show (toPs _).map PyData.list = _; rw [toPs_strs]; rfl) rfl (sh_strs h) rfl hu ?_
  rw [eqv_nil, List.isEmpty_map]
  exact k
/-- what comes is frozen, told as a list of texts -/
theorem he_frzL {e : Expr} (h : HE S e n Γ fun n1 Γ1 r => ∃ ds, r = .ol (ds.map .frz) ∧ K n1 Γ1 (.frz (.lst ds))) : HE S e n Γ K := by
  refine he_frz (h.mono fun n1 Γ1 r ⟨ds, hr, hk⟩ => ?_)
  rw [hr]
  have e : (OT.ol (ds.map .frz)).d = .lst ds := by show D.lst (OT.ds _) = _; rw [od_ol]
  rw [e]
  exact hk
/-- [] -/
theorem he_nilF (k : K n Γ (.frz (.lst []))) : HE S (.List [] pos) n Γ K := he_frz (he_list (ha_nil ⟨by decide, k⟩))
end
theorem sg_lay {c : Nat} (h : c < 0x110000) : PyData.canLay0 (.str ⟨#[c]⟩) = true := by
  show (#[c] : Array Nat).all (· < 0x110000) = true
  simp [h]
theorem lay_mem {x : Str} (h : PyData.canLay0 (.str x) = true) {c : Nat} (hc : c ∈ x.cps.toList) : c < 0x110000 := by
  have h : x.cps.all (· < 0x110000) = true := h
  have := Array.all_eq_true_iff_forall_mem.mp h c (by simpa using hc)
  simpa using this
end DL

set_option Elab.async false
set_option linter.all false
set_option maxRecDepth 100000
set_option maxHeartbeats 4000000
/-! DM2: methods and __init__ as defs. -/
namespace DL
open PySem PySem.Spec PyProof.Rows L2 Evl
def mthd (s : Stmt) (i : Nat) : Stmt := match s with
  | .ClassDef _ _ _ body _ _ _ _ _ _ _ => body.getD i (.Pass ⟨0, 0, 0, 0⟩)
  | s => s
section
variable {P : Program} {w : World} {K : PySem.W.Frag} {mg : Str → Option Value} {base : Heap} {N ps : List Str} {qual m x : Str} {f C : Addr} {st cs : Addr} {T : List (Addr × Str)} {as : List OT}
def DefM (K : PySem.W.Frag) (C : Addr) (m qual : Str) (s : Stmt) : Prop := ∃ f fd, Meth K C m f ∧ FunD K m qual (defArgs s) (defBody s) (defScope s) [] [] f fd
def DefI (K : PySem.W.Frag) (mg : Str → Option Value) (x : Str) (C : Addr) (qual : Str) (s : Stmt) : Prop := ∃ f fd, mg x = some (.ref C) ∧ Mk K C f ∧ FunD K "__init__" qual (defArgs s) (defBody s) (defScope s) [] [] f fd
theorem fn_okI {s : Stmt} {k : Nat} {sp : FSpec} (d : DefI K mg x C qual s) (Sc : FnScope N ps (defScope s))
    (hb : ∀ f (as : List OT) (b : Bp P w K mg base N qual (defScope s) f st cs T as) (n : Nat) (KP : Nat → List OT → OT → Prop) (XP0 : Nat → Addr → List Str → List D → Prop), Room k b.S.X.A → as.length = ps.length → sp as n KP XP0 →
      (∀ n Γ C ns ds, XP0 n C ns ds → b.S.XP n Γ C ns ds) →
      HSs b.S (defBody s) n (as.map some ++ List.replicate (N.length - ps.length) none)
        { nx := fun n' Γ' => ∃ outs, OutsOk as Γ' outs ∧ KP n' outs (.frz .non), rt := fun n' Γ' r => ∃ outs, OutsOk as Γ' outs ∧ KP n' outs r })
    (hbind : ∀ (kV doc pm : Value) (an : Option Addr) (cdv ct : Value) (us : List Value), us.length = ps.length → bindArgs (PySem.W.fnOf "__init__" qual (defArgs s) (defBody s) (defScope s) .none kV doc pm an cdv ct) ⟨us, []⟩ = pure (ps.zip us)) :
    OkI P w K mg base ⟨K, st, cs, T⟩ (k + 1) x C ps sp := by
  obtain ⟨f, fd, h0, h1, h2⟩ := d
  refine ⟨f, fd, h0, h1, h2.bindsN hbind, fn_sp h2 Sc fun cdv A outer s' H B M vs EX W XP as n KP XP0 tk xo po hr hl hlv hsp hx => ?_⟩
  exact hb f as ⟨cdv, A, outer, s', H, B, M, vs, hlv, EX, W, XP, tk, xo, po⟩ n KP XP0 hr hl hsp hx
theorem fn_okM {s : Stmt} {k : Nat} {sp : FSpec} (d : DefM K C m qual s) (Sc : FnScope N ps (defScope s))
    (hb : ∀ f (as : List OT) (b : Bp P w K mg base N qual (defScope s) f st cs T as) (n : Nat) (KP : Nat → List OT → OT → Prop) (XP0 : Nat → Addr → List Str → List D → Prop), Room k b.S.X.A → as.length = ps.length → sp as n KP XP0 →
      (∀ n Γ C ns ds, XP0 n C ns ds → b.S.XP n Γ C ns ds) →
      HSs b.S (defBody s) n (as.map some ++ List.replicate (N.length - ps.length) none)
        { nx := fun n' Γ' => ∃ outs, OutsOk as Γ' outs ∧ KP n' outs (.frz .non), rt := fun n' Γ' r => ∃ outs, OutsOk as Γ' outs ∧ KP n' outs r })
    (hbind : ∀ (kV doc pm : Value) (an : Option Addr) (cdv ct : Value) (us : List Value), us.length = ps.length → bindArgs (PySem.W.fnOf m qual (defArgs s) (defBody s) (defScope s) .none kV doc pm an cdv ct) ⟨us, []⟩ = pure (ps.zip us)) :
    OkM P w K mg base ⟨K, st, cs, T⟩ (k + 1) C m ps sp := by
  obtain ⟨f, fd, h1, h2⟩ := d
  refine ⟨f, fd, h1, h2.bindsN hbind, fn_sp h2 Sc fun cdv A outer s' H B M vs EX W XP as n KP XP0 tk xo po hr hl hlv hsp hx => ?_⟩
  exact hb f as ⟨cdv, A, outer, s', H, B, M, vs, hlv, EX, W, XP, tk, xo, po⟩ n KP XP0 hr hl hsp hx
theorem fn_pureM {s : Stmt} {k : Nat} {R : PSpec} (d : DefM K C m qual s) (Sc : FnScope N ps (defScope s))
    (hb : ∀ f (ds : List D) (b : Bp P w K mg base N qual (defScope s) f st cs T (ds.map .frz)) (n : Nat) (KP : Nat → OT → Prop) (XP0 : Nat → Addr → List Str → List D → Prop), Room k b.S.X.A → ds.length = ps.length → R ds n KP XP0 →
      (∀ n Γ C ns ds, XP0 n C ns ds → b.S.XP n Γ C ns ds) →
      HSs b.S (defBody s) n ((ds.map .frz).map some ++ List.replicate (N.length - ps.length) none) { nx := fun n' _ => KP n' (.frz .non), rt := fun n' _ r => KP n' r })
    (hbind : ∀ (kV doc pm : Value) (an : Option Addr) (cdv ct : Value) (us : List Value), us.length = ps.length → bindArgs (PySem.W.fnOf m qual (defArgs s) (defBody s) (defScope s) .none kV doc pm an cdv ct) ⟨us, []⟩ = pure (ps.zip us)) :
    OkM P w K mg base ⟨K, st, cs, T⟩ (k + 1) C m ps (pureSp R) := by
  refine fn_okM d Sc (fun f as b n KP XP0 hr hl hsp hx => ?_) hbind
  obtain ⟨ds, rfl, hR⟩ := hsp
  have h := hb f ds b n _ XP0 hr (by rw [← hl, List.length_map]) hR hx
  exact fun Δ σ vs H D a m => h Δ σ vs H D a ⟨fun n' Γ' σ' H' hk a' => m.nx n' Γ' σ' H' ⟨_, outs_frz ds Γ', hk⟩ a', fun n' Γ' r σ' v H' hk a' => m.rt n' Γ' r σ' v H' ⟨_, outs_frz ds Γ', hk⟩ a', m.bk, m.ct⟩
end
end DL

set_option Elab.async false
set_option linter.all false
set_option maxRecDepth 100000
set_option maxHeartbeats 4000000
/-! DM3: list(text), an empty dict. -/
namespace DL
open PySem PySem.Spec PyProof.Rows L2 Evl
theorem signs_vals : ∀ {us : List Value} {cs : List Nat}, us.length = cs.length → (∀ (j : Nat) (v : Value), us[j]? = some v → ∃ c t, cs[j]? = some c ∧ v = .str ⟨#[c]⟩ t) → Vals (cs.map fun c => V.str ⟨#[c]⟩) us
  | [], [], _, _ => .nil
  | [], _ :: _, h, _ => by simp at h
  | _ :: _, [], h, _ => by simp at h
  | u :: us, c :: cs, hl, h => by
    obtain ⟨c', t, e1, e2⟩ := h 0 u rfl
    have e1 : c = c' := Option.some.inj e1
    subst e1
    exact .cons ⟨t, e2⟩ (signs_vals (by simpa using hl) fun j v e => h (j + 1) v e)
theorem call_listS {X : Cx} (hc : X.calm = true) : CallR X (.type "list") (fun xs H Q => ∃ z : Str, xs = [.str z] ∧ z.length ≤ sizeLine ∧ ∀ l, H l = none → Q (.ref l) (upd H l (.lst (z.cps.toList.map fun c => .str ⟨#[c]⟩)))) := by
  intro pins s σ H xs us Q I r h
  obtain ⟨z, rfl, hz, q⟩ := h
  obtain ⟨u, rfl, rx⟩ := vals1 r
  obtain ⟨t, rfl⟩ := rx
  refine call_list_str (I.ok.hd hc) z t (hn := hz) fun h' tk acc c' hk hD hacc => ?_
  refine ⟨.ref s.heap.objs.size, _, I.laid (t' := tk) hk (Nat.le_refl _)
    (show ObjOk X.prog X.w _ _ _ (.lst (z.cps.toList.map fun c => .str ⟨#[c]⟩)) from ⟨by rw [List.length_map, Array.length_toList]; exact hz, acc.toList, c', signs_vals (by rw [Array.length_toList, Array.length_toList]; exact hacc.1) fun j v e => ?_, by rw [Array.toArray_toList]; exact hD⟩), rfl, q _ (I.hok.fresh (Nat.le_refl _))⟩
  obtain ⟨c, t, e1, e2⟩ := hacc.2 j v (by rw [← Array.getElem?_toList]; exact e)
  exact ⟨c, t, by rw [Array.getElem?_toList]; exact e1, e2⟩
section
variable {S : Sit} {n : Nat} {Γ : Slots} {K : Nat → Slots → OT → Prop} {pos p : Pos}
theorem hf_listS {z : Str} (hc : S.X.calm = true) (hz : z.length ≤ sizeLine) (k : K n Γ (.ol ((z.cps.toList.map fun c => D.str ⟨#[c]⟩).map .frz))) : HF S (.type "list") [.frz (.str z)] n Γ K := by
  intro Δ σ xs vs H Q hl a q
  obtain ⟨v, rfl⟩ := one_of hl
  obtain ⟨B, F, G, k1, h2⟩ := At.open1 a
  have h2 : v = .str z := h2
  subst h2
  refine ⟨_, call_listS hc, z, rfl, hz, fun l hl => q n Γ _ _ _ k (k1.newL hl ?_)⟩
  generalize z.cps.toList = cs
  induction cs with
  | nil => exact rfl
  | cons c cs ih => exact ⟨_, _, rfl, rfl, ih⟩
/-- {} -/
theorem he_dct0 (k : K n Γ (dctO [])) : HE S (.Dict [] [] pos) n Γ K := by
  intro Δ σ vs H Q ⟨B, F, G, a⟩ q
  refine ⟨_, pe_dnewK, fun x hx => q n Γ _ _ _ k ?_⟩
  have g := Grow.own (o := .dK []) a.evo.sub hx
  refine ⟨B, F, [x] ++ G, a.push (G1 := [x]) g (dctO_rp (acc := []) (kvs := []) upd_same rfl) (fun b hb => ?_) fun b => ?_⟩
  · have : b = x := by
      have := List.count_pos_iff.mp hb
      simpa using this
    subst this
    exact ⟨hx, fresh_back a.evo.sub hx⟩
  · rw [List.count_cons]
    simp
    split <;> omega
end
end DL

set_option Elab.async false
set_option linter.all false
set_option maxRecDepth 100000
set_option maxHeartbeats 4000000
namespace DL
open PySem PySem.Spec PyProof.Rows L2 Evl
section
variable {S : Sit} {n : Nat} {Γ : Slots} {K : Nat → Slots → OT → Prop} {KB : Nat → Slots → Bool → Prop} {P : Post} {pos p : Pos}
/-- a statement by its own end -/
theorem hs_post {st : Stmt} (J : Nat → Slots → Prop) (h : HS S st n Γ { P with nx := J }) (hJ : ∀ n' Γ', J n' Γ' → P.nx n' Γ') : HS S st n Γ P :=
  fun Δ σ vs H D a m => h Δ σ vs H D a ⟨fun n Γ σ H j => m.nx n Γ σ H (hJ n Γ j), m.rt, m.bk, m.ct⟩
theorem At.tru {Z : Wd} {E : Ent} {Δ : List OT} {σ : L2.St} {vs : List V} {H : Hp} {r : OT} {v : V} {c : Bool} (a : DL.At Z E n Γ (r :: Δ) σ (v :: vs) H) (h : truD r = some c) : TruV Z.K v H c := by
  obtain ⟨B, F, G, h1⟩ := a
  obtain ⟨y', ys, F1, F2, e1, e2, e3, e4⟩ := h1.tm
  obtain ⟨rfl, rfl⟩ := List.cons.inj e1
  exact tru_of h1.evo.sub e3 h
/-- a or b, by truth -/
theorem he_orT {a b : Expr} {rest : List Expr} (h : HE S a n Γ fun n1 Γ1 r => ∃ c, truD r = some c ∧ if c = true then K n1 Γ1 r else HE S (.BoolOp .Or (b :: rest) pos) n1 Γ1 K) : HE S (.BoolOp .Or (a :: b :: rest) pos) n Γ K := by
  intro Δ σ vs H Q a0 q
  refine ⟨_, pe_orT pe_c pe_c, h Δ σ vs H _ a0 fun n1 Γ1 r v H1 ⟨c, hr, hk⟩ a1 => ?_⟩
  refine ⟨c, a1.tru hr, ?_⟩
  cases c with
  | true => exact q n1 Γ1 _ v H1 hk a1
  | false => exact hk Δ σ vs H1 Q a1.pop q
theorem he_andT {a b : Expr} {rest : List Expr} (h : HE S a n Γ fun n1 Γ1 r => ∃ c, truD r = some c ∧ if c = true then HE S (.BoolOp .And (b :: rest) pos) n1 Γ1 K else K n1 Γ1 r) : HE S (.BoolOp .And (a :: b :: rest) pos) n Γ K := by
  intro Δ σ vs H Q a0 q
  refine ⟨_, pe_andT pe_c pe_c, h Δ σ vs H _ a0 fun n1 Γ1 r v H1 ⟨c, hr, hk⟩ a1 => ?_⟩
  refine ⟨c, a1.tru hr, ?_⟩
  cases c with
  | false => exact q n1 Γ1 _ v H1 hk a1
  | true => exact hk Δ σ vs H1 Q a1.pop q
/-- what is made on the way is frozen for an operation -/
theorem ho_fz {c : R2} {x y : OT} (h : HO2 S c n Γ (.frz x.d) (.frz y.d) K) : HO2 S c n Γ x y K := by
  intro Δ σ v w vs H Q a q
  exact h Δ σ v w vs H Q (At.frzs (rs := [y, x]) (xs := [w, v]) a rfl) q
theorem o_catO {x y : OT} {ds es : List D} (hx : x.d = .lst ds) (hy : y.d = .lst es) (hz : ds.length + es.length ≤ 100000) (k : K n Γ (.ol ((ds ++ es).map .frz))) : HO2 S (cB S.X .Add) n Γ x y K := by
  refine ho_fz ?_
  rw [hx, hy]
  exact o_catL hz k
end
/-! ### slots are forgotten -/
def Lss : Slots → Slots → Prop
  | [], [] => True
  | g' :: Γ', g :: Γ => (g' = none ∨ g' = g) ∧ Lss Γ' Γ
  | _, _ => False
theorem RpS.forget {K : PySem.W.Frag} {H B : Hp} : ∀ {Γ Γ' : Slots} {σ : L2.St} {F : List Addr}, Lss Γ' Γ → RpS K H B Γ σ F → ∃ F', (∀ a, F'.count a ≤ F.count a) ∧ RpS K H B Γ' σ F'
  | [], [], σ, F, _, h => ⟨F, fun _ => Nat.le_refl _, h⟩
  | [], _ :: _, _, _, l, _ => l.elim
  | _ :: _, [], _, _, l, _ => l.elim
  | none :: Γ, g' :: Γ', σ, F, ⟨e, l⟩, ⟨x, σ', e1, h⟩ => by
    obtain ⟨F', c, h'⟩ := RpS.forget l h
    have : g' = none := by rcases e with e | e <;> exact e
    subst this
    exact ⟨F', c, x, σ', e1, h'⟩
  | some t :: Γ, g' :: Γ', σ, F, ⟨e, l⟩, ⟨v, σ', F1, F2, e1, e2, h1, h⟩ => by
    obtain ⟨F', c, h'⟩ := RpS.forget l h
    subst e2
    rcases e with rfl | rfl
    · exact ⟨F', fun a => by rw [List.count_append]; have := c a; omega, some v, σ', e1, h'⟩
    · exact ⟨F1 ++ F', fun a => by rw [List.count_append, List.count_append]; have := c a; omega, v, σ', F1, F', e1, rfl, h1, h'⟩
theorem At.forget {Z : Wd} {E : Ent} {n : Nat} {Γ Γ' : Slots} {Δ : List OT} {σ : L2.St} {vs : List V} {H : Hp} (h : DL.At Z E n Γ Δ σ vs H) (l : Lss Γ' Γ) : DL.At Z E n Γ' Δ σ vs H := by
  obtain ⟨B, F, G, a⟩ := h
  obtain ⟨F', c, s⟩ := RpS.forget l a.sl
  exact ⟨B, F', G, a.evo, s, a.tm, fun b => by have := a.nd b; have := c b; omega, fun b hb => a.out b (by have := c b; omega), a.str, a.bst, a.tab, a.pin⟩
theorem hss_fg {S : Sit} {n : Nat} {Γ : Slots} {P : Post} {st : List Stmt} (Γ' : Slots) (l : Lss Γ' Γ) (h : HSs S st n Γ' P) : HSs S st n Γ P := fun Δ σ vs H D a m => h Δ σ vs H D (a.forget l) m
/-! ### slices -/
theorem sIx_none0 (n d : Nat) : HT.sIx n d none = d := rfl
theorem sIx_nat (n d k : Nat) : HT.sIx n d (some (k : Int)) = min k n := by
  unfold HT.sIx
  simp
  omega
theorem cut_take {α : Type} (xs : List α) (k : Nat) : cut xs none (some (k : Int)) = xs.take k := by
  unfold cut
  rw [sIx_nat, sIx_none0, List.drop_zero, Nat.sub_zero]
  by_cases h : k ≤ xs.length
  · rw [Nat.min_eq_left h]
  · rw [Nat.min_eq_right (by omega), List.take_length, List.take_of_length_le (by omega)]
theorem cut_drop {α : Type} (xs : List α) (k : Nat) : cut xs (some (k : Int)) none = xs.drop k := by
  unfold cut
  rw [sIx_nat, sIx_none0]
  by_cases h : k ≤ xs.length
  · rw [Nat.min_eq_left h, ← List.length_drop, List.take_length]
  · rw [Nat.min_eq_right (by omega), List.drop_length, List.drop_of_length_le (by omega), List.take_nil]
theorem perm_map_inv {α β : Type} (f : α → β) {ys l : List β} (h : ys.Perm l) : ∀ {zs : List α}, l = zs.map f → ∃ us : List α, ys = us.map f ∧ us.Perm zs := by
  induction h with
  | nil => exact fun {zs} e => ⟨[], rfl, by rw [List.map_eq_nil_iff.mp e.symm]⟩
  | cons x _ ih =>
    intro zs e
    obtain ⟨z, zs', rfl, rfl, rfl⟩ := List.map_eq_cons_iff.mp e.symm
    obtain ⟨us, rfl, hp⟩ := ih rfl
    exact ⟨z :: us, rfl, hp.cons z⟩
  | swap x y l =>
    intro zs e
    obtain ⟨z, zs', rfl, rfl, e2⟩ := List.map_eq_cons_iff.mp e.symm
    obtain ⟨z2, zs2, rfl, rfl, rfl⟩ := List.map_eq_cons_iff.mp e2
    exact ⟨z2 :: z :: zs2, rfl, List.Perm.swap _ _ _⟩
  | trans _ _ ih1 ih2 =>
    intro zs e
    obtain ⟨us, rfl, hp⟩ := ih2 e
    obtain ⟨vs, rfl, hq⟩ := ih1 rfl
    exact ⟨vs, rfl, hq.trans hp⟩
theorem od_ol' (ds : List D) : OT.d (.ol (ds.map .frz)) = .lst ds := by show D.lst (OT.ds _) = _; rw [od_ol]
theorem od_take (ds : List D) (k : Nat) : OT.d (.ol ((cut ds none (some (k : Int))).map .frz)) = .lst (ds.take k) := by rw [od_ol', cut_take]
theorem od_drop (ds : List D) (k : Nat) : OT.d (.ol ((cut ds (some (k : Int)) none).map .frz)) = .lst (ds.drop k) := by rw [od_ol', cut_drop]
end DL

set_option Elab.async false
set_option linter.all false
set_option maxRecDepth 100000
set_option maxHeartbeats 4000000
/-! DM5: a law's def, from the heap at its call: tables that are not of the law are left out; the spring of draws is laid by the first statement. -/
namespace DL
open PySem PySem.Spec PyProof.Rows L2 Evl
/-! ### other tables are left out -/
def odd (T : List Addr) (H : Hp) (b : Addr) : Prop := (∃ ps, H b = some (.tbl ps)) ∧ b ∉ T
open Classical in
noncomputable def trim (T : List Addr) (H : Hp) : Hp := fun b => if odd T H b then none else H b
section
variable {T : List Addr} {H : Hp} {b : Addr}
theorem trim_odd (h : odd T H b) : trim T H b = none := if_pos h
theorem trim_out (h : ¬ odd T H b) : trim T H b = H b := if_neg h
theorem odd_tb {o : HO} (e : H b = some o) (h : ∀ ps, o ≠ .tbl ps) : ¬ odd T H b := fun ⟨⟨ps, q⟩, _⟩ => by
  rw [e] at q
  exact h ps (Option.some.inj q)
theorem trim_keep {o : HO} (e : H b = some o) (h : ∀ ps, o ≠ .tbl ps) : trim T H b = some o := (trim_out (odd_tb e h)).trans e
theorem trim_none (e : H b = none) : trim T H b = none := by
  by_cases q : odd T H b
  · exact trim_odd q
  · rw [trim_out q, e]
theorem trim_sub {o : HO} (e : trim T H b = some o) : H b = some o ∧ ¬ odd T H b := by
  by_cases q : odd T H b
  · rw [trim_odd q] at e; cases e
  · rw [trim_out q] at e; exact ⟨e, q⟩
theorem trim_in (e : b ∈ T) : trim T H b = H b := trim_out fun q => q.2 e
theorem trim_all {ps : Array Value} (e : trim T H b = some (.tbl ps)) : b ∈ T := by
  obtain ⟨h1, h2⟩ := trim_sub e
  exact Classical.byContradiction fun h => h2 ⟨⟨ps, h1⟩, h⟩
theorem trim_sqL {K : PySem.W.Frag} {a : Addr} {xs : List V} (h : SqL K H a xs) : SqL K (trim T H) a xs := by
  rcases h with h | h
  · refine .inl ?_
    rcases h with h | ⟨o, h⟩
    · exact .inl (trim_keep h (fun ps z => by cases z))
    · exact .inr ⟨o, trim_keep h (fun ps z => by cases z)⟩
  · exact .inr h
end
theorem fn_trim {P : Program} {w : World} {K : PySem.W.Frag} {mg : Str → Option Value} {base : Heap} {CX : CXT} {k : Nat} {f : Addr} {fd : FuncData} {ps : List Str} {sp1 : Sp} {G : List V → Hp → Prop} {R : V → Prop} (T : List Addr)
    (F : FnOk P w K mg base CX k f fd ps sp1) (hCX : ∀ outer H s e s', CX outer H s (fun _ _ _ => False) e s' → False) (hl : ∀ vs H, G vs H → vs.length = ps.length)
    (h : ∀ vs H, G vs H → sp1 vs (trim T H) (fun v _ => R v) fun _ _ _ => False) : FnOk P w K mg base CX k f fd ps (fun vs H Q _ => G vs H ∧ ∀ v H', R v → Q v H') := by
  refine ⟨fun vs H Q E ⟨g, _⟩ => hl vs H g, fun A outer s H args us vs Q E hr e hb hv ⟨g, hq⟩ => ?_⟩
  have e' : Env0 P w K mg base A outer s (trim T H) := ⟨e.frames, e.mod, fun b o hb => ⟨(e.bs b o hb).1, trim_none (e.bs b o hb).2⟩, e.bsz, e.funs, fun b hb => trim_none (e.frf b hb), fun a o ha => by
    obtain ⟨h1, h2⟩ := trim_sub ha
    exact (e.hok a o h1).stay (fun _ _ _ q => q) (fun b q => trim_keep q fun ps z => by cases z) (fun b xs q => trim_keep q fun ps z => by cases z), e.bare⟩
  refine codeAny_mono (F.run A outer s (trim T H) args us vs _ _ hr e' hb hv (h vs H g)) fun r s' hc => ?_
  cases r with
  | error x => exact (hCX _ _ _ _ _ hc).elim
  | ok fl =>
    cases fl with
    | next => exact hc
    | brk => exact hc
    | cont => exact hc
    | ret u =>
      obtain ⟨v, H2, os, bare, un, hok, rel, q⟩ := hc
      have none2 : ∀ b, odd T H b → H2 b = none := fun b hb => by
        obtain ⟨⟨ps, h1⟩, h2⟩ := hb
        exact un.free b _ (e.hok b _ h1) (trim_odd ⟨⟨ps, h1⟩, h2⟩) (by simp)
      classical
      refine ⟨v, fun b => if odd T H b then H b else H2 b, os, bare, ⟨fun b o h1 h2 => un.keep b o h1 (trim_none h2), fun b o h1 h2 => un.slot b o h1 (trim_none h2), fun b o h1 h2 h3 => ?_, un.there, fun b xs h1 => ?_, fun b o x h1 => ?_, fun b ps h1 => ?_⟩, fun a o ha => ?_, rel, hq v _ q⟩
      · rw [if_neg (fun ⟨⟨ps, z⟩, _⟩ => by rw [h2] at z; cases z)]
        exact un.free b o h1 (trim_none h2) h3
      · rw [if_neg (odd_tb h1 fun ps z => by cases z)]
        exact un.tups b xs (trim_keep h1 fun ps z => by cases z)
      · rw [if_neg (odd_tb h1 fun ps z => by cases z)]
        exact un.frzs b o x (trim_keep h1 fun ps z => by cases z)
      · by_cases q : odd T H b
        · exact ⟨#[], by rw [if_pos q, h1, Array.append_empty]⟩
        · rw [if_neg q]
          exact un.tbls b ps ((trim_out q).trans h1)
      · by_cases q : odd T H a
        · obtain ⟨⟨ps, h1⟩, h2⟩ := id q
          have ha' : H a = some o := (if_pos q).symm.trans ha
          rw [h1] at ha'
          cases ha'
          exact un.keep a _ (e.hok a _ h1) (trim_odd q) (fun z => by rw [e.frf a z] at h1; cases h1) (by simp)
        · have ha' : H2 a = some o := (if_neg q).symm.trans ha
          have off : ∀ b x, H2 b = some x → ¬ odd T H b := fun b x hx z => by rw [none2 b z] at hx; cases hx
          exact (hok a o ha').stay (fun _ _ _ q => q) (fun b q => (if_neg (off b _ q)).trans q) (fun b xs q => (if_neg (off b _ q)).trans q)
/-! ### the spring is laid -/
/-- what _law_start does -/
def spStart (K : PySem.W.Frag) (c0 : Int) : Sp := fun vs H Q _ => ∃ (a : Addr) (ns : List Int), vs = [.ref a] ∧ SqL K H a (ns.map V.int) ∧ ∀ p q, H q = none → H p = none → p ≠ q → Q (.ref p) (upd (upd H q (.lst (ns.map V.int))) p (.lst [.ref q, .int 0, .int 0, .int c0]))
/-- what a law's def is called with -/
def spLaw (K : PySem.W.Frag) (T : List (Addr × Str)) : Sp := fun vs H Q _ => ∃ (a : Addr) (ns : List Int), vs = [.ref a] ∧ ns.length ≤ 63 ∧ SqL K H a (ns.map V.int) ∧ (∀ p ∈ T, H p.1 = some (.tbl #[])) ∧ (∀ b ps, H b = some (.tbl ps) → b ∈ T.map (·.1)) ∧ ∀ v H', v = .bl true → Q v H'
abbrev lawΓ (N : List Str) (st : Addr) : Slots := none :: some (.frz (.opq (.ref st))) :: List.replicate (N.length - 2) none
theorem fn_law {P : Program} {w : World} {K : PySem.W.Frag} {mg : Str → Option Value} {base : Heap} {x qual : Str} {params : Arguments} {body rest : List Stmt} {scope : Scope} {f c : Addr} {fd : FuncData} {N : List Str} {k : Nat} {T : List (Addr × Str)} {c0 : Int} {st0 : Stmt}
    (F : FunD K x qual params body scope [] [] f fd) (hc : fd.code = .ref c) (Sc : FnScope N ["script"] scope) (hbd : body = st0 :: rest) (n : Nat) (hn : n ≤ 1000000000000) (hc0 : 0 ≤ c0) (hc1 : c0 < 2147483647) (hN : 2 ≤ N.length)
    (h0 : ∀ (A : Around) (outer : List Env) (s : Shared) (H : Hp) (EX : XK), Room k (bodyX P w K mg base N qual scope f (.ref c) A outer s H EX).A → ∃ E, PS (bodyX P w K mg base N qual scope f (.ref c) A outer s H EX) st0 (tAsg (tCallS (spStart K c0) E (tCons (tVar 0) tNil)) (gName 1)))
    (hb : ∀ (A : Around) (outer : List Env) (s : Shared) (H : Hp) (EX : XK) (st cs : Addr) (W : WX) (XP : XPost) (E : Ent) tk xo po, Room k (bodyX P w K mg base N qual scope f (.ref c) A outer s H EX).A → E.P = [] →
      HSs (Sit.mk (bodyX P w K mg base N qual scope f (.ref c) A outer s H EX) st cs T E W XP tk xo po) rest n (lawΓ N st) { nx := fun _ _ => False, rt := fun _ _ r => r = .frz (.bl true) }) :
    FnOk P w K mg base (L2.CX P w) (k + 1) f fd ["script"] (spLaw K T) := by
  obtain ⟨oc, od, dV, kV, doc, pm, an, cdv, ct, osl, rfl, lk, hcd, _, _⟩ := F.ex
  have hcv : cdv = .ref c := hc
  subst hcv
  refine fn_of lk hcd Sc (fun vs H Q E ⟨a, ns, e, _⟩ => by rw [e]; rfl) fun A outer s H vs Q EX hr ⟨a, ns, e, hl, hs, ht, hall, hq⟩ => ?_
  subst e
  subst hbd
  obtain ⟨E0, p0⟩ := h0 A outer s H EX hr
  refine ⟨_, pss_cons p0 pss_c, ?_⟩
  refine ⟨_, rfl, a, ns, rfl, hs, fun p q hq0 hp0 hne => ?_⟩
  obtain ⟨H1, hH1⟩ : ∃ H1, H1 = upd (upd H q (.lst (ns.map V.int))) p (.lst [.ref q, .int 0, .int 0, .int c0]) := ⟨_, rfl⟩
  rw [← hH1]
  have hqp : q ≠ p := fun z => hne z.symm
  have e1 : H1 p = some (.lst [.ref q, .int 0, .int 0, .int c0]) := by rw [hH1]; exact upd_same
  have e2 : H1 q = some (.lst (ns.map V.int)) := by rw [hH1, upd_ne hqp]; exact upd_same
  have tbd : ∀ b ps, H1 b = some (.tbl ps) → H b = some (.tbl ps) := fun b ps z => by
    rw [hH1] at z
    exact tb_new (fun _ z => by cases z) b ps (tb_new (fun _ z => by cases z) b ps z)
  have tbu : ∀ b ps, H b = some (.tbl ps) → H1 b = some (.tbl ps) := fun b ps z => by
    rw [hH1, upd_ne (fun y => by rw [y, hp0] at z; cases z), upd_ne (fun y => by rw [y, hq0] at z; cases z)]
    exact z
  have B0 : ∀ b : Addr, (fun _ => none : Hp) b = none := fun _ => rfl
  obtain ⟨m, hm⟩ : ∃ m, N.length = m + 2 := ⟨N.length - 2, by omega⟩
  have at0 : AtB ⟨K, p, q, T⟩ ⟨H1, fun _ => none, [], []⟩ n (lawΓ N p) [] ((L2.start N [.ref a]).set 1 (some (.ref p))) [] H1 (fun _ => none) [] [] := by
    refine ⟨⟨fun _ _ e _ _ _ _ => e, fun a ps e => ⟨ps, e⟩, Ex.refl _, fun _ _ h => absurd rfl h, fun _ _ h => by cases h⟩, ?_, ⟨rfl, rfl⟩, fun a => by simp, fun a ha => by simp at ha, ⟨ns, 0, 0, c0, e1, e2, hne, hl, Int.le_refl 0, Int.le_refl 0, ?_, hc0, hc1⟩, ⟨rfl, rfl, fun _ _ => by simp⟩, ⟨fun t ht2 => LamX.TabS.nil (tbu _ _ (ht t ht2)), fun b ps z => ?_⟩, trivial⟩
    · unfold L2.start lawΓ
      rw [hm]
      show RpS K H1 _ (none :: some (.frz (.opq (.ref p))) :: List.replicate m none) (some (.ref a) :: some (.ref p) :: List.replicate m none) []
      have hr2 := RpS.nones (K := K) (H := H1) (B := fun _ => none) (List.replicate m (none : Option V))
      rw [List.length_replicate] at hr2
      exact ⟨_, _, rfl, .ref p, _, [], [], rfl, rfl, ⟨rfl, rfl⟩, hr2⟩
    · show (0 : Int) + (n : Int) ≤ _
      omega
    · obtain ⟨y, hy, rfl⟩ := List.mem_map.mp (hall b ps (tbd b ps z))
      exact ⟨y.2, hy⟩
  have hb' := hb A outer s H EX p q (fun cls d _ H' => EX cls d H') (fun _ _ _ _ _ => False) ⟨H1, fun _ => none, [], []⟩ (takes_of rfl rfl rfl rfl) (fun n Γ C ns ds d σ H2 B2 F2 a e hx0 => hx0.elim) (passes_of rfl) hr rfl
  refine hb' [] _ [] H1 _ ⟨_, [], [], at0⟩ ⟨fun _ _ _ _ h _ => h.elim, fun n' Γ' r σ v H2 h a => ?_, fun _ _ _ _ h => h.elim, fun _ _ _ _ h => h.elim⟩
  subst h
  obtain ⟨B2, _, h2⟩ := At.val a
  exact hq v H2 h2
end DL

set_option Elab.async false
set_option linter.all false
set_option maxRecDepth 100000
set_option maxHeartbeats 4000000
/-! DM6: what is looked up in the head's heap: own errors, own classes. -/
namespace DL
open PySem PySem.Spec PyProof.Rows L2
def clsB (K : PySem.W.Frag) (C : Addr) : Bool := match K.lookup C with
  | some ⟨.type c, _, .cls cd, sl⟩ => decide (c = "type") && (cd.hasDict && (!cd.hasDel && (match cd.mro, sl with
    | .ref C' :: bm, ⟨[_, _, _, _, some (.builtin nid), _]⟩ => decide (C' = C) && (PySem.HandSPX.refsVE bm && decide (nid = "ValueError.__new__"))
    | _, _ => false)))
  | _ => false
def oexB (K : PySem.W.Frag) (C : Addr) : Bool := clsB K C && (decide (PySem.W.findIn K (.ref C) "__setattr__" = some (some (.builtin "object.__setattr__"))) && (decide (PySem.W.subIn K (.ref C) (.type "BaseException") = some true) && (decide (PySem.W.typeIn K (.ref C) = some (.type "type")) && PySem.W.keepIn K (.ref C))))
theorem oexB_ok {K : PySem.W.Frag} {C : Addr} (h : oexB K C = true) : OexC K C := by
  unfold oexB at h
  obtain ⟨h1, h⟩ := Bool.and_eq_true_iff.mp h
  obtain ⟨h2, h⟩ := Bool.and_eq_true_iff.mp h
  obtain ⟨h3, h⟩ := Bool.and_eq_true_iff.mp h
  obtain ⟨h4, h5⟩ := Bool.and_eq_true_iff.mp h
  refine ⟨?_, of_decide_eq_true h2, of_decide_eq_true h3, of_decide_eq_true h4, h5⟩
  unfold clsB at h1
  split at h1
  · rename_i c dd cd sl e
    obtain ⟨q1, h1⟩ := Bool.and_eq_true_iff.mp h1
    obtain ⟨q2, h1⟩ := Bool.and_eq_true_iff.mp h1
    obtain ⟨q3, h1⟩ := Bool.and_eq_true_iff.mp h1
    split at h1
    · rename_i C' bm k0 k1 k2 k3 nid k5 em e2 e3 e4
      obtain ⟨q4, h1⟩ := Bool.and_eq_true_iff.mp h1
      obtain ⟨q5, q6⟩ := Bool.and_eq_true_iff.mp h1
      have q1 := of_decide_eq_true q1
      have q4 := of_decide_eq_true q4
      have q6 := of_decide_eq_true q6
      subst q1 q4 q6
      obtain ⟨nm, bs, mro, N, q, hd, sn, sub, ab, col, del⟩ := cd
      have r2 : hd = true := q2
      have r3 : del = false := by simpa using q3
      have rm : mro = .ref C' :: bm := em
      clear q2 q3 em e2 e3 e4
      subst r2 r3 rm
      exact ⟨nm, q, N, bs, bm, sn, sub, ab, col, dd, k0, k1, k2, k3, k5, e, q5⟩
    · cases h1
  · cases h1
/-- an own error with one field -/
def errB (K : PySem.W.Frag) (x f : Str) : Bool := oexB K (He.ga K x) && (xfB K (He.ga K x) && (decide (PySem.W.findIn K (.ref (He.ga K x)) f = some none) && (decide (PySem.W.findIn K (.ref (He.ga K x)) "__init__" = some (some (.ref (He.ma K (He.ga K x) "__init__")))) && decide (PySem.W.typeIn K (.ref (He.ma K (He.ga K x) "__init__")) = some (.type "function")))))
structure ErrC (K : PySem.W.Frag) (x f : Str) : Prop where
  oex : OexC K (He.ga K x)
  xf : XfC K (He.ga K x)
  no : PySem.W.findIn K (.ref (He.ga K x)) f = some none
  ini : PySem.W.findIn K (.ref (He.ga K x)) "__init__" = some (some (.ref (He.ma K (He.ga K x) "__init__")))
  ty : PySem.W.typeIn K (.ref (He.ma K (He.ga K x) "__init__")) = some (.type "function")
theorem errB_ok {K : PySem.W.Frag} {x f : Str} (h : errB K x f = true) : ErrC K x f := by
  obtain ⟨h1, h⟩ := Bool.and_eq_true_iff.mp h
  obtain ⟨h2, h⟩ := Bool.and_eq_true_iff.mp h
  obtain ⟨h3, h⟩ := Bool.and_eq_true_iff.mp h
  obtain ⟨h4, h5⟩ := Bool.and_eq_true_iff.mp h
  exact ⟨oexB_ok h1, xfB_ok h2, of_decide_eq_true h3, of_decide_eq_true h4, of_decide_eq_true h5⟩
def exmB (K : PySem.W.Frag) (xs : List Str) : Bool := xs.all fun x => xs.all fun y => decide (PySem.W.exmOne K (.ref (He.ga K x)) (.ref (He.ga K y)) = some (decide (x = y)))
theorem exmB_ok {K : PySem.W.Frag} {xs : List Str} (h : exmB K xs = true) {x y : Str} (hx : x ∈ xs) (hy : y ∈ xs) : PySem.W.exmOne K (.ref (He.ga K x)) (.ref (He.ga K y)) = some (decide (x = y)) :=
  of_decide_eq_true (List.all_eq_true.mp (List.all_eq_true.mp h x hx) y hy)
/-- an own class whose kind is asked -/
def ownB (K : PySem.W.Frag) (C : Addr) : Bool :=
  (decide (PySem.W.findIn K (.ref C) "__class__" = some (some (.builtin "object.__class__"))) && (decide (PySem.W.specialIn K (.builtin "object.__class__") "__get__" = some (some (.builtin "getset_descriptor.__get__"))) && (decide (PySem.W.takesIn K (.builtin "object.__class__") = some true) && (decide (PySem.W.mroIn K C (.type "object") = some true) && (decide (PySem.W.kitOne K (.ref C) (.ref C) = some true) && seven.all fun T => decide (PySem.W.kitOne K (.type T) (.ref C) = some false))))))
theorem ownB_ok {K : PySem.W.Frag} {C : Addr} (c : Cls K C) (h : ownB K C = true) : OwnC K C := by
  obtain ⟨h1, h⟩ := Bool.and_eq_true_iff.mp h
  obtain ⟨h2, h⟩ := Bool.and_eq_true_iff.mp h
  obtain ⟨h3, h⟩ := Bool.and_eq_true_iff.mp h
  obtain ⟨h4, h⟩ := Bool.and_eq_true_iff.mp h
  obtain ⟨h5, h6⟩ := Bool.and_eq_true_iff.mp h
  exact ⟨⟨c, of_decide_eq_true h1, of_decide_eq_true h2, of_decide_eq_true h3, of_decide_eq_true h4, of_decide_eq_true h5⟩, fun T hT => of_decide_eq_true (List.all_eq_true.mp h6 T hT)⟩
section
variable {fa : List He.Fa} {fn : List He.DefD} {K : PySem.W.Frag} {h : Heap} {mg : Str → Option Value}
theorem def1_of (c : He.SaysD fa fn K) (X : K.In h) (G : h.Ns mainGlobals mg) {x : Str} {s : Stmt} (hf : He.Fa.glo x ∈ fa) (hd : (⟨(x, none), x, x, defArgs s, defBody s, defScope s, [], []⟩ : He.DefD) ∈ fn) : Def1 K mg x s := by
  obtain ⟨fd, F⟩ := c.defs hd
  exact ⟨_, fd, He.glo_ok X G (c.facts hf), F⟩
theorem defM_of (c : He.SaysD fa fn K) {x m qual : Str} {s : Stmt} (hf : He.Fa.meth x m ∈ fa) (hd : (⟨(x, some m), m, qual, defArgs s, defBody s, defScope s, [], []⟩ : He.DefD) ∈ fn) : DefM K (He.ga K x) m qual s := by
  obtain ⟨fd, F⟩ := c.defs hd
  exact ⟨_, fd, He.meth_ok (c.facts hf), F⟩
theorem defI_of (c : He.SaysD fa fn K) (X : K.In h) (G : h.Ns mainGlobals mg) {x qual : Str} {s : Stmt} (hg : He.Fa.glo x ∈ fa) (hf : He.Fa.mkr x ∈ fa) (hd : (⟨(x, some "__init__"), "__init__", qual, defArgs s, defBody s, defScope s, [], []⟩ : He.DefD) ∈ fn) : DefI K mg x (He.ga K x) qual s := by
  obtain ⟨fd, F⟩ := c.defs hd
  exact ⟨_, fd, He.glo_ok X G (c.facts hg), He.mkr_ok (c.facts hf), F⟩
theorem okX_of {P : Program} {w : World} {base : Heap} (c : He.SaysD fa fn K) (X : K.In h) (G : h.Ns mainGlobals mg) {x f y qual : Str} {s : Stmt} {p1 p2 p3 p4 : Pos} (e : ErrC K x f) (hg : He.Fa.glo x ∈ fa) (hd : (⟨(x, some "__init__"), "__init__", qual, defArgs s, defBody s, defScope s, [], []⟩ : He.DefD) ∈ fn)
    (hb : defBody s = [.Assign [.Attribute (.Name "self" p1) f p2] (.Name y p3) p4]) (Sc : FnScope ["self", y] ["self", y] (defScope s)) (hv : Vis (defScope s) "self") (hy : Vis (defScope s) y)
    (hbind : ∀ (kV doc pm : Value) (an : Option Addr) (cdv ct : Value) (us : List Value), us.length = [("self" : Str), y].length → bindArgs (PySem.W.fnOf "__init__" qual (defArgs s) (defBody s) (defScope s) .none kV doc pm an cdv ct) ⟨us, []⟩ = pure ([("self" : Str), y].zip us))
    (h1 : (y == ("__debug__" : Str)) = false := by decide) (h2 : (y == ("__classdict__" : Str)) = false := by decide) : OkX P w K mg base x (He.ga K x) f := by
  obtain ⟨fd, F⟩ := c.defs hd
  have b := FunD.bindsN (ps := ["self", y]) F hbind
  have F2 : FunD K "__init__" qual (defArgs s) [.Assign [.Attribute (.Name "self" p1) f p2] (.Name y p3) p4] (defScope s) [] [] (He.ma K (He.ga K x) "__init__") fd := by rw [← hb]; exact F
  exact ⟨_, fd, y, He.glo_ok X G (c.facts hg), e.oex, e.no, e.ini, e.ty, b, ok_excI F2 Sc hv hy h1 h2⟩
end
end DL

set_option Elab.async false
set_option linter.all false
set_option maxRecDepth 100000
set_option maxHeartbeats 4000000
namespace K03
open PySem PySem.Spec PyProof.Rows L2 DL
def top (i : Nat) : Stmt := PySem.Challenge.pw_ruledwords_k03_walks_judged.main.body.getD i (.Pass ⟨0, 0, 0, 0⟩)
section
variable {P : Program} {w : World} {K : PySem.W.Frag} {mg : Str → Option Value} {base : Heap} {st cs : Addr} {T : List (Addr × Str)}
/-! is_row -/
theorem sc_is_row : FnScope ["thing"] ["thing"] (defScope (top 19)) := ⟨rfl, rfl, rfl, by decide +kernel, rfl, by decide +kernel, by decide +kernel⟩
def sp_is_row : PSpec := fun ds n KP _ => ∃ d, ds = [d] ∧ plain d = true ∧ KP n (.frz (.bl (isRow d)))
theorem ok_is_row (k : Nat) (d : Def1 K mg "is_row" (top 19)) (m1 : mg "isinstance" = none) (m2 : mg "list" = none) (m3 : mg "tuple" = none) :
    OkF P w K mg base ⟨K, st, cs, T⟩ (k + 1) "is_row" ["thing"] (pureSp sp_is_row) := by
  refine fn_pure d sc_is_row (fun f ds b n KP XP0 hr hl ⟨d, e, hp, hk⟩ hx => ?_) fun _ _ _ _ _ _ us hl => match us, hl with | [_], _ => rfl
  subst e
  refine hss_one (hs_ret (he_fun b_isinstance m1 (ha_cons (he_var 0 rfl (.inl rfl) rfl (ha_cons (he_tup (ha_cons (he_ty b_list m2 (ha_cons (he_ty b_tuple m3 (ha_nil ⟨by decide, ha_nil ?_⟩)))))))))))
  exact hf_isK (Ts := ["list", "tuple"]) hp (by rw [T_isRow]; exact hk)
theorem sc_is_number : FnScope ["thing", "low", "high"] ["thing", "low", "high"] (defScope (top 20)) := ⟨rfl, rfl, rfl, by decide +kernel, rfl, by decide +kernel, by decide +kernel⟩
def isNum (d : D) (lo hi : Int) : Bool := match d with
  | .int i => decide (lo ≤ i) && decide (i ≤ hi)
  | _ => false
def sp_is_number : PSpec := fun ds n KP _ => ∃ d lo hi, ds = [d, .int lo, .int hi] ∧ plain d = true ∧ KP n (.frz (.bl (isNum d lo hi)))
theorem ok_is_number (k : Nat) (d : Def1 K mg "is_number" (top 20)) (m1 : mg "isinstance" = none) (m2 : mg "int" = none) (m3 : mg "bool" = none) :
    OkF P w K mg base ⟨K, st, cs, T⟩ (k + 1) "is_number" ["thing", "low", "high"] (pureSp sp_is_number) := by
  refine fn_pure d sc_is_number (fun f ds b n KP XP0 hr hl ⟨d, lo, hi, e, hp, hk⟩ hx => ?_) fun _ _ _ _ _ _ us hl => match us, hl with | [_, _, _], _ => rfl
  subst e
  refine hss_one (hs_ret (he_and (he_fun b_isinstance m1 (ha_cons (he_var 0 rfl (.inl rfl) rfl (ha_cons (he_ty b_int m2 (ha_nil (hf_isK1 hp ⟨_, rfl, iteP ⟨fun h1 => ?_, fun h1 => ?_⟩⟩)))))))))
  all_goals rw [T_isInt] at h1
  · refine he_and (he_not (he_fun b_isinstance m1 (ha_cons (he_var 0 rfl (.inl rfl) rfl (ha_cons (he_ty b_bool m3 (ha_nil (hf_isK1 hp ⟨_, rfl, _, rfl, iteP ⟨fun h2 => ?_, fun h2 => ?_⟩⟩))))))))
    all_goals rw [T_isBl] at h2
    · cases d with
      | int i =>
        refine he_one (he_chain (he_var 1 rfl (.inl rfl) rfl (he_var 0 rfl (.inl rfl) rfl ⟨_, _, rfl, rfl, o_le ⟨_, rfl, iteP ⟨fun h3 => he_var 2 rfl (.inl rfl) rfl (o_le ?_), fun h3 => ?_⟩⟩⟩)))
        · rw [show isNum (.int i) lo hi = decide (i ≤ hi) by rw [isNum, h3]; rfl] at hk
          exact hk
        · rw [show isNum (.int i) lo hi = false by rw [isNum, h3]; rfl] at hk
          exact hk
      | bl c => cases h2
      | _ => cases h1
    · have e : isNum d lo hi = false := by
        cases d with
        | int i => cases h2
        | _ => rfl
      rw [e] at hk
      exact hk
  · have e : isNum d lo hi = false := by
      cases d with
      | int i => cases h1
      | _ => rfl
    rw [e] at hk
    exact hk
end
end K03

set_option Elab.async false
set_option linter.all false
set_option maxRecDepth 100000
set_option maxHeartbeats 0
namespace K03
open PySem PySem.Spec PyProof.Rows L2 DL
abbrev R : PySem.W.OpenRow := PySem.W.OpenLaw.row PySem.Challenge.rw_ruledwords_k03_walks_judged
def loose0 : List PySem.Str := [PySem.Str.ofString "is_row", PySem.Str.ofString "is_number", PySem.Str.ofString "is_letter", PySem.Str.ofString "letters_in", PySem.Str.ofString "is_of", PySem.Str.ofString "rule_in", PySem.Str.ofString "pairs_in", PySem.Str.ofString "need_rules", PySem.Str.ofString "is_word", PySem.Str.ofString "need_word", PySem.Str.ofString "steps_of", PySem.Str.ofString "step_in", PySem.Str.ofString "next_words", PySem.Str.ofString "walk_fault", PySem.Str.ofString "_law_start", PySem.Str.ofString "_law_below", PySem.Str.ofString "_law_chance", PySem.Str.ofString "_law_pick", PySem.Str.ofString "_law_mixed", PySem.Str.ofString "_law_copied", PySem.Str.ofString "_law_same", PySem.Str.ofString "_law_loose", PySem.Str.ofString "_law_knothing", PySem.Str.ofString "_law_kword", PySem.Str.ofString "_law_kletters", PySem.Str.ofString "_law_kpair", PySem.Str.ofString "_law_krules", PySem.Str.ofString "_law_kmade", PySem.Str.ofString "_law_kgrown", PySem.Str.ofString "_law_kstill"]
def loose1 : List PySem.Str := [PySem.Str.ofString "_law_ksteps", PySem.Str.ofString "_law_kdone", PySem.Str.ofString "_law_kis_word", PySem.Str.ofString "_law_kraised", PySem.Str.ofString "_law_krefuses", PySem.Str.ofString "_law_kno_word", PySem.Str.ofString "_law_fault", PySem.Str.ofString "_law_words", PySem.Str.ofString "RuleError", PySem.Str.ofString "BadFar", PySem.Str.ofString "BadLength", PySem.Str.ofString "BadLetters", PySem.Str.ofString "BadMachine", PySem.Str.ofString "BadMany", PySem.Str.ofString "BadOther", PySem.Str.ofString "BadPairs", PySem.Str.ofString "BadRow", PySem.Str.ofString "BadRules", PySem.Str.ofString "BadStep", PySem.Str.ofString "BadTrees", PySem.Str.ofString "BadWord", PySem.Str.ofString "TooMany", PySem.Str.ofString "Rules", PySem.Str.ofString "LONGEST", PySem.Str.ofString "MOST", PySem.Str.ofString "SMALL"]
def loose : List PySem.Str := loose0 ++ loose1
def d_is_row : He.DefD := ⟨("is_row", none), "is_row", "is_row", defArgs (top 19), defBody (top 19), defScope (top 19), [], []⟩
def d_is_number : He.DefD := ⟨("is_number", none), "is_number", "is_number", defArgs (top 20), defBody (top 20), defScope (top 20), [], []⟩
def d_is_letter : He.DefD := ⟨("is_letter", none), "is_letter", "is_letter", defArgs (top 21), defBody (top 21), defScope (top 21), [], []⟩
def d_letters_in : He.DefD := ⟨("letters_in", none), "letters_in", "letters_in", defArgs (top 22), defBody (top 22), defScope (top 22), [], []⟩
def d_is_of : He.DefD := ⟨("is_of", none), "is_of", "is_of", defArgs (top 23), defBody (top 23), defScope (top 23), [], []⟩
def d_rule_in : He.DefD := ⟨("rule_in", none), "rule_in", "rule_in", defArgs (top 24), defBody (top 24), defScope (top 24), [], []⟩
def d_pairs_in : He.DefD := ⟨("pairs_in", none), "pairs_in", "pairs_in", defArgs (top 25), defBody (top 25), defScope (top 25), [], []⟩
def d_need_rules : He.DefD := ⟨("need_rules", none), "need_rules", "need_rules", defArgs (top 27), defBody (top 27), defScope (top 27), [], []⟩
def d_is_word : He.DefD := ⟨("is_word", none), "is_word", "is_word", defArgs (top 29), defBody (top 29), defScope (top 29), [], []⟩
def d_need_word : He.DefD := ⟨("need_word", none), "need_word", "need_word", defArgs (top 30), defBody (top 30), defScope (top 30), [], []⟩
def d_steps_of : He.DefD := ⟨("steps_of", none), "steps_of", "steps_of", defArgs (top 31), defBody (top 31), defScope (top 31), [], []⟩
def d_step_in : He.DefD := ⟨("step_in", none), "step_in", "step_in", defArgs (top 32), defBody (top 32), defScope (top 32), [], []⟩
def d_next_words : He.DefD := ⟨("next_words", none), "next_words", "next_words", defArgs (top 33), defBody (top 33), defScope (top 33), [], []⟩
def d_walk_fault : He.DefD := ⟨("walk_fault", none), "walk_fault", "walk_fault", defArgs (top 34), defBody (top 34), defScope (top 34), [], []⟩
def d__law_start : He.DefD := ⟨("_law_start", none), "_law_start", "_law_start", defArgs (top 36), defBody (top 36), defScope (top 36), [], []⟩
def d__law_below : He.DefD := ⟨("_law_below", none), "_law_below", "_law_below", defArgs (top 37), defBody (top 37), defScope (top 37), [], []⟩
def d__law_chance : He.DefD := ⟨("_law_chance", none), "_law_chance", "_law_chance", defArgs (top 38), defBody (top 38), defScope (top 38), [], []⟩
def d__law_pick : He.DefD := ⟨("_law_pick", none), "_law_pick", "_law_pick", defArgs (top 39), defBody (top 39), defScope (top 39), [], []⟩
def d__law_mixed : He.DefD := ⟨("_law_mixed", none), "_law_mixed", "_law_mixed", defArgs (top 40), defBody (top 40), defScope (top 40), [], []⟩
def d__law_copied : He.DefD := ⟨("_law_copied", none), "_law_copied", "_law_copied", defArgs (top 41), defBody (top 41), defScope (top 41), [], []⟩
def d__law_same : He.DefD := ⟨("_law_same", none), "_law_same", "_law_same", defArgs (top 42), defBody (top 42), defScope (top 42), [], []⟩
def d__law_loose : He.DefD := ⟨("_law_loose", none), "_law_loose", "_law_loose", defArgs (top 43), defBody (top 43), defScope (top 43), [], []⟩
def d__law_knothing : He.DefD := ⟨("_law_knothing", none), "_law_knothing", "_law_knothing", defArgs (top 44), defBody (top 44), defScope (top 44), [], []⟩
def d__law_kword : He.DefD := ⟨("_law_kword", none), "_law_kword", "_law_kword", defArgs (top 45), defBody (top 45), defScope (top 45), [], []⟩
def d__law_kletters : He.DefD := ⟨("_law_kletters", none), "_law_kletters", "_law_kletters", defArgs (top 46), defBody (top 46), defScope (top 46), [], []⟩
def d__law_kpair : He.DefD := ⟨("_law_kpair", none), "_law_kpair", "_law_kpair", defArgs (top 47), defBody (top 47), defScope (top 47), [], []⟩
def d__law_krules : He.DefD := ⟨("_law_krules", none), "_law_krules", "_law_krules", defArgs (top 48), defBody (top 48), defScope (top 48), [], []⟩
def d__law_kmade : He.DefD := ⟨("_law_kmade", none), "_law_kmade", "_law_kmade", defArgs (top 49), defBody (top 49), defScope (top 49), [], []⟩
def d__law_kgrown : He.DefD := ⟨("_law_kgrown", none), "_law_kgrown", "_law_kgrown", defArgs (top 50), defBody (top 50), defScope (top 50), [], []⟩
def d__law_kstill : He.DefD := ⟨("_law_kstill", none), "_law_kstill", "_law_kstill", defArgs (top 51), defBody (top 51), defScope (top 51), [], []⟩
def d__law_ksteps : He.DefD := ⟨("_law_ksteps", none), "_law_ksteps", "_law_ksteps", defArgs (top 52), defBody (top 52), defScope (top 52), [], []⟩
def d__law_kdone : He.DefD := ⟨("_law_kdone", none), "_law_kdone", "_law_kdone", defArgs (top 53), defBody (top 53), defScope (top 53), [], []⟩
def d__law_kis_word : He.DefD := ⟨("_law_kis_word", none), "_law_kis_word", "_law_kis_word", defArgs (top 54), defBody (top 54), defScope (top 54), [], []⟩
def d__law_kraised : He.DefD := ⟨("_law_kraised", none), "_law_kraised", "_law_kraised", defArgs (top 55), defBody (top 55), defScope (top 55), [], []⟩
def d__law_krefuses : He.DefD := ⟨("_law_krefuses", none), "_law_krefuses", "_law_krefuses", defArgs (top 56), defBody (top 56), defScope (top 56), [], []⟩
def d__law_kno_word : He.DefD := ⟨("_law_kno_word", none), "_law_kno_word", "_law_kno_word", defArgs (top 57), defBody (top 57), defScope (top 57), [], []⟩
def d__law_fault : He.DefD := ⟨("_law_fault", none), "_law_fault", "_law_fault", defArgs (top 58), defBody (top 58), defScope (top 58), [], []⟩
def d__law_words : He.DefD := ⟨("_law_words", none), "_law_words", "_law_words", defArgs (top 59), defBody (top 59), defScope (top 59), [], []⟩
def d_law : He.DefD := ⟨("law", none), "law", "law", defArgs (top 60), defBody (top 60), defScope (top 60), [], []⟩
def d_Rules___init__ : He.DefD := ⟨("Rules", some "__init__"), "__init__", "Rules.__init__", defArgs (mthd (top 26) 0), defBody (mthd (top 26) 0), defScope (mthd (top 26) 0), [], []⟩
def d_BadRules___init__ : He.DefD := ⟨("BadRules", some "__init__"), "__init__", "BadRules.__init__", defArgs (mthd (top 10) 0), defBody (mthd (top 10) 0), defScope (mthd (top 10) 0), [], []⟩
def d_BadLetters___init__ : He.DefD := ⟨("BadLetters", some "__init__"), "__init__", "BadLetters.__init__", defArgs (mthd (top 4) 0), defBody (mthd (top 4) 0), defScope (mthd (top 4) 0), [], []⟩
def d_BadPairs___init__ : He.DefD := ⟨("BadPairs", some "__init__"), "__init__", "BadPairs.__init__", defArgs (mthd (top 8) 0), defBody (mthd (top 8) 0), defScope (mthd (top 8) 0), [], []⟩
def d_BadWord___init__ : He.DefD := ⟨("BadWord", some "__init__"), "__init__", "BadWord.__init__", defArgs (mthd (top 13) 0), defBody (mthd (top 13) 0), defScope (mthd (top 13) 0), [], []⟩
def d_BadOther___init__ : He.DefD := ⟨("BadOther", some "__init__"), "__init__", "BadOther.__init__", defArgs (mthd (top 7) 0), defBody (mthd (top 7) 0), defScope (mthd (top 7) 0), [], []⟩
def d_BadFar___init__ : He.DefD := ⟨("BadFar", some "__init__"), "__init__", "BadFar.__init__", defArgs (mthd (top 2) 0), defBody (mthd (top 2) 0), defScope (mthd (top 2) 0), [], []⟩
def d_BadStep___init__ : He.DefD := ⟨("BadStep", some "__init__"), "__init__", "BadStep.__init__", defArgs (mthd (top 11) 0), defBody (mthd (top 11) 0), defScope (mthd (top 11) 0), [], []⟩
def d_BadRow___init__ : He.DefD := ⟨("BadRow", some "__init__"), "__init__", "BadRow.__init__", defArgs (mthd (top 9) 0), defBody (mthd (top 9) 0), defScope (mthd (top 9) 0), [], []⟩
def d_BadTrees___init__ : He.DefD := ⟨("BadTrees", some "__init__"), "__init__", "BadTrees.__init__", defArgs (mthd (top 12) 0), defBody (mthd (top 12) 0), defScope (mthd (top 12) 0), [], []⟩
def d_BadMany___init__ : He.DefD := ⟨("BadMany", some "__init__"), "__init__", "BadMany.__init__", defArgs (mthd (top 6) 0), defBody (mthd (top 6) 0), defScope (mthd (top 6) 0), [], []⟩
def d_BadLength___init__ : He.DefD := ⟨("BadLength", some "__init__"), "__init__", "BadLength.__init__", defArgs (mthd (top 3) 0), defBody (mthd (top 3) 0), defScope (mthd (top 3) 0), [], []⟩
def d_BadMachine___init__ : He.DefD := ⟨("BadMachine", some "__init__"), "__init__", "BadMachine.__init__", defArgs (mthd (top 5) 0), defBody (mthd (top 5) 0), defScope (mthd (top 5) 0), [], []⟩
def d_TooMany___init__ : He.DefD := ⟨("TooMany", some "__init__"), "__init__", "TooMany.__init__", defArgs (mthd (top 14) 0), defBody (mthd (top 14) 0), defScope (mthd (top 14) 0), [], []⟩
def fn : List He.DefD := [d_is_row, d_is_number, d_is_letter, d_letters_in, d_is_of, d_rule_in, d_pairs_in, d_need_rules, d_is_word, d_need_word, d_steps_of, d_step_in, d_next_words, d_walk_fault, d__law_start, d__law_below, d__law_chance, d__law_pick, d__law_mixed, d__law_copied, d__law_same, d__law_loose, d__law_knothing, d__law_kword, d__law_kletters, d__law_kpair, d__law_krules, d__law_kmade, d__law_kgrown, d__law_kstill] ++ ([d__law_ksteps, d__law_kdone, d__law_kis_word, d__law_kraised, d__law_krefuses, d__law_kno_word, d__law_fault, d__law_words, d_law, d_Rules___init__, d_BadRules___init__, d_BadLetters___init__, d_BadPairs___init__, d_BadWord___init__, d_BadOther___init__, d_BadFar___init__, d_BadStep___init__, d_BadRow___init__, d_BadTrees___init__, d_BadMany___init__, d_BadLength___init__, d_BadMachine___init__, d_TooMany___init__] : List He.DefD)
def fa : List He.Fa := [.glo "is_row", .glo "is_number", .glo "is_letter", .glo "letters_in", .glo "is_of", .glo "rule_in", .glo "pairs_in", .glo "need_rules", .glo "is_word", .glo "need_word", .glo "steps_of", .glo "step_in", .glo "next_words", .glo "walk_fault", .glo "_law_start", .glo "_law_below", .glo "_law_chance", .glo "_law_pick", .glo "_law_mixed", .glo "_law_copied", .glo "_law_same", .glo "_law_loose", .glo "_law_knothing", .glo "_law_kword", .glo "_law_kletters", .glo "_law_kpair", .glo "_law_krules", .glo "_law_kmade", .glo "_law_kgrown", .glo "_law_kstill"] ++ ([.glo "_law_ksteps", .glo "_law_kdone", .glo "_law_kis_word", .glo "_law_kraised", .glo "_law_krefuses", .glo "_law_kno_word", .glo "_law_fault", .glo "_law_words", .glo "law", .glo "RuleError", .glo "BadFar", .glo "BadLength", .glo "BadLetters", .glo "BadMachine", .glo "BadMany", .glo "BadOther", .glo "BadPairs", .glo "BadRow", .glo "BadRules", .glo "BadStep", .glo "BadTrees", .glo "BadWord", .glo "TooMany", .glo "Rules", .free "len", .free "isinstance", .free "list", .free "tuple", .free "dict", .free "int"] : List He.Fa) ++ ([.free "str", .free "sorted", .free "range", .free "zip", .free "all", .free "enumerate", .free "bool", .mkr "Rules", .cls "Rules", .noat "Rules" "alphabet", .noat "Rules" "held", .int "LONGEST" 60, .int "MOST" 8, .str "SMALL" "abcdefghijklmnopqrstuvwxyz"] : List He.Fa)
def tf : List He.Defn := [("law", none)]
def errNs : List Str := [("BadRules" : Str), ("BadLetters" : Str), ("BadPairs" : Str), ("BadWord" : Str), ("BadOther" : Str), ("BadFar" : Str), ("BadStep" : Str), ("BadRow" : Str), ("BadTrees" : Str), ("BadMany" : Str), ("BadLength" : Str), ("BadMachine" : Str), ("TooMany" : Str)]
def ex (K : PySem.W.Frag) : Bool := errB K "BadRules" "thing" && (errB K "BadLetters" "thing" && (errB K "BadPairs" "index" && (errB K "BadWord" "thing" && (errB K "BadOther" "thing" && (errB K "BadFar" "thing" && (errB K "BadStep" "thing" && (errB K "BadRow" "index" && (errB K "BadTrees" "thing" && (errB K "BadMany" "thing" && (errB K "BadLength" "thing" && (errB K "BadMachine" "thing" && (errB K "TooMany" "many" && (exmB K errNs && (ownB K (He.ga K "Rules")))))))))))))))
abbrev hk : PySem.W.Hook := He.hookX 5 fa fn [] tf ex
def ob (s : PySem.W.SharedT) : He.AlX := He.obsX 5 fa fn [] tf ex (HandSHeadRun.getT s)
theorem ob_eq (s : PySem.W.SharedT) : ob s = hk.obs s.abs := He.obsX_eq (HandSHeadRun.getT_eq s)
theorem run (w : World) : HandSHeadRun.RunEq R (PySem.W.view R.prog [60]) hk ob 20000 loose w := by
  intro os
  kernel_rfl

section
variable {P : Program} {w : World} {K : PySem.W.Frag} {h : Heap} {mg : Str → Option Value} {base : Heap} (c : He.SaysD fa fn K) (X : K.In h) (G : h.Ns mainGlobals mg)
include c X G
theorem D_is_row : Def1 K mg "is_row" (top 19) := def1_of c X G (List.mem_of_getElem? (i := 0) rfl) (List.mem_of_getElem? (i := 0) rfl)
theorem D_is_number : Def1 K mg "is_number" (top 20) := def1_of c X G (List.mem_of_getElem? (i := 1) rfl) (List.mem_of_getElem? (i := 1) rfl)
theorem D_is_letter : Def1 K mg "is_letter" (top 21) := def1_of c X G (List.mem_of_getElem? (i := 2) rfl) (List.mem_of_getElem? (i := 2) rfl)
theorem D_letters_in : Def1 K mg "letters_in" (top 22) := def1_of c X G (List.mem_of_getElem? (i := 3) rfl) (List.mem_of_getElem? (i := 3) rfl)
theorem D_is_of : Def1 K mg "is_of" (top 23) := def1_of c X G (List.mem_of_getElem? (i := 4) rfl) (List.mem_of_getElem? (i := 4) rfl)
theorem D_rule_in : Def1 K mg "rule_in" (top 24) := def1_of c X G (List.mem_of_getElem? (i := 5) rfl) (List.mem_of_getElem? (i := 5) rfl)
theorem D_pairs_in : Def1 K mg "pairs_in" (top 25) := def1_of c X G (List.mem_of_getElem? (i := 6) rfl) (List.mem_of_getElem? (i := 6) rfl)
theorem D_need_rules : Def1 K mg "need_rules" (top 27) := def1_of c X G (List.mem_of_getElem? (i := 7) rfl) (List.mem_of_getElem? (i := 7) rfl)
theorem D_is_word : Def1 K mg "is_word" (top 29) := def1_of c X G (List.mem_of_getElem? (i := 8) rfl) (List.mem_of_getElem? (i := 8) rfl)
theorem D_need_word : Def1 K mg "need_word" (top 30) := def1_of c X G (List.mem_of_getElem? (i := 9) rfl) (List.mem_of_getElem? (i := 9) rfl)
theorem D_steps_of : Def1 K mg "steps_of" (top 31) := def1_of c X G (List.mem_of_getElem? (i := 10) rfl) (List.mem_of_getElem? (i := 10) rfl)
theorem D_step_in : Def1 K mg "step_in" (top 32) := def1_of c X G (List.mem_of_getElem? (i := 11) rfl) (List.mem_of_getElem? (i := 11) rfl)
theorem D_next_words : Def1 K mg "next_words" (top 33) := def1_of c X G (List.mem_of_getElem? (i := 12) rfl) (List.mem_of_getElem? (i := 12) rfl)
theorem D_walk_fault : Def1 K mg "walk_fault" (top 34) := def1_of c X G (List.mem_of_getElem? (i := 13) rfl) (List.mem_of_getElem? (i := 13) rfl)
theorem D__law_start : Def1 K mg "_law_start" (top 36) := def1_of c X G (List.mem_of_getElem? (i := 14) rfl) (List.mem_of_getElem? (i := 14) rfl)
theorem D__law_below : Def1 K mg "_law_below" (top 37) := def1_of c X G (List.mem_of_getElem? (i := 15) rfl) (List.mem_of_getElem? (i := 15) rfl)
theorem D__law_chance : Def1 K mg "_law_chance" (top 38) := def1_of c X G (List.mem_of_getElem? (i := 16) rfl) (List.mem_of_getElem? (i := 16) rfl)
theorem D__law_pick : Def1 K mg "_law_pick" (top 39) := def1_of c X G (List.mem_of_getElem? (i := 17) rfl) (List.mem_of_getElem? (i := 17) rfl)
theorem D__law_mixed : Def1 K mg "_law_mixed" (top 40) := def1_of c X G (List.mem_of_getElem? (i := 18) rfl) (List.mem_of_getElem? (i := 18) rfl)
theorem D__law_copied : Def1 K mg "_law_copied" (top 41) := def1_of c X G (List.mem_of_getElem? (i := 19) rfl) (List.mem_of_getElem? (i := 19) rfl)
theorem D__law_same : Def1 K mg "_law_same" (top 42) := def1_of c X G (List.mem_of_getElem? (i := 20) rfl) (List.mem_of_getElem? (i := 20) rfl)
theorem D__law_loose : Def1 K mg "_law_loose" (top 43) := def1_of c X G (List.mem_of_getElem? (i := 21) rfl) (List.mem_of_getElem? (i := 21) rfl)
theorem D__law_knothing : Def1 K mg "_law_knothing" (top 44) := def1_of c X G (List.mem_of_getElem? (i := 22) rfl) (List.mem_of_getElem? (i := 22) rfl)
theorem D__law_kword : Def1 K mg "_law_kword" (top 45) := def1_of c X G (List.mem_of_getElem? (i := 23) rfl) (List.mem_of_getElem? (i := 23) rfl)
theorem D__law_kletters : Def1 K mg "_law_kletters" (top 46) := def1_of c X G (List.mem_of_getElem? (i := 24) rfl) (List.mem_of_getElem? (i := 24) rfl)
theorem D__law_kpair : Def1 K mg "_law_kpair" (top 47) := def1_of c X G (List.mem_of_getElem? (i := 25) rfl) (List.mem_of_getElem? (i := 25) rfl)
theorem D__law_krules : Def1 K mg "_law_krules" (top 48) := def1_of c X G (List.mem_of_getElem? (i := 26) rfl) (List.mem_of_getElem? (i := 26) rfl)
theorem D__law_kmade : Def1 K mg "_law_kmade" (top 49) := def1_of c X G (List.mem_of_getElem? (i := 27) rfl) (List.mem_of_getElem? (i := 27) rfl)
theorem D__law_kgrown : Def1 K mg "_law_kgrown" (top 50) := def1_of c X G (List.mem_of_getElem? (i := 28) rfl) (List.mem_of_getElem? (i := 28) rfl)
theorem D__law_kstill : Def1 K mg "_law_kstill" (top 51) := def1_of c X G (List.mem_of_getElem? (i := 29) rfl) (List.mem_of_getElem? (i := 29) rfl)
theorem D__law_ksteps : Def1 K mg "_law_ksteps" (top 52) := def1_of c X G (List.mem_of_getElem? (i := 30) rfl) (List.mem_of_getElem? (i := 30) rfl)
theorem D__law_kdone : Def1 K mg "_law_kdone" (top 53) := def1_of c X G (List.mem_of_getElem? (i := 31) rfl) (List.mem_of_getElem? (i := 31) rfl)
theorem D__law_kis_word : Def1 K mg "_law_kis_word" (top 54) := def1_of c X G (List.mem_of_getElem? (i := 32) rfl) (List.mem_of_getElem? (i := 32) rfl)
theorem D__law_kraised : Def1 K mg "_law_kraised" (top 55) := def1_of c X G (List.mem_of_getElem? (i := 33) rfl) (List.mem_of_getElem? (i := 33) rfl)
theorem D__law_krefuses : Def1 K mg "_law_krefuses" (top 56) := def1_of c X G (List.mem_of_getElem? (i := 34) rfl) (List.mem_of_getElem? (i := 34) rfl)
theorem D__law_kno_word : Def1 K mg "_law_kno_word" (top 57) := def1_of c X G (List.mem_of_getElem? (i := 35) rfl) (List.mem_of_getElem? (i := 35) rfl)
theorem D__law_fault : Def1 K mg "_law_fault" (top 58) := def1_of c X G (List.mem_of_getElem? (i := 36) rfl) (List.mem_of_getElem? (i := 36) rfl)
theorem D__law_words : Def1 K mg "_law_words" (top 59) := def1_of c X G (List.mem_of_getElem? (i := 37) rfl) (List.mem_of_getElem? (i := 37) rfl)
theorem D_law : Def1 K mg "law" (top 60) := def1_of c X G (List.mem_of_getElem? (i := 38) rfl) (List.mem_of_getElem? (i := 38) rfl)
theorem G_RuleError : mg "RuleError" = some (.ref (He.ga K "RuleError")) := He.glo_ok X G (c.facts (List.mem_of_getElem? (i := 39) rfl))
theorem G_BadFar : mg "BadFar" = some (.ref (He.ga K "BadFar")) := He.glo_ok X G (c.facts (List.mem_of_getElem? (i := 40) rfl))
theorem G_BadLength : mg "BadLength" = some (.ref (He.ga K "BadLength")) := He.glo_ok X G (c.facts (List.mem_of_getElem? (i := 41) rfl))
theorem G_BadLetters : mg "BadLetters" = some (.ref (He.ga K "BadLetters")) := He.glo_ok X G (c.facts (List.mem_of_getElem? (i := 42) rfl))
theorem G_BadMachine : mg "BadMachine" = some (.ref (He.ga K "BadMachine")) := He.glo_ok X G (c.facts (List.mem_of_getElem? (i := 43) rfl))
theorem G_BadMany : mg "BadMany" = some (.ref (He.ga K "BadMany")) := He.glo_ok X G (c.facts (List.mem_of_getElem? (i := 44) rfl))
theorem G_BadOther : mg "BadOther" = some (.ref (He.ga K "BadOther")) := He.glo_ok X G (c.facts (List.mem_of_getElem? (i := 45) rfl))
theorem G_BadPairs : mg "BadPairs" = some (.ref (He.ga K "BadPairs")) := He.glo_ok X G (c.facts (List.mem_of_getElem? (i := 46) rfl))
theorem G_BadRow : mg "BadRow" = some (.ref (He.ga K "BadRow")) := He.glo_ok X G (c.facts (List.mem_of_getElem? (i := 47) rfl))
theorem G_BadRules : mg "BadRules" = some (.ref (He.ga K "BadRules")) := He.glo_ok X G (c.facts (List.mem_of_getElem? (i := 48) rfl))
theorem G_BadStep : mg "BadStep" = some (.ref (He.ga K "BadStep")) := He.glo_ok X G (c.facts (List.mem_of_getElem? (i := 49) rfl))
theorem G_BadTrees : mg "BadTrees" = some (.ref (He.ga K "BadTrees")) := He.glo_ok X G (c.facts (List.mem_of_getElem? (i := 50) rfl))
theorem G_BadWord : mg "BadWord" = some (.ref (He.ga K "BadWord")) := He.glo_ok X G (c.facts (List.mem_of_getElem? (i := 51) rfl))
theorem G_TooMany : mg "TooMany" = some (.ref (He.ga K "TooMany")) := He.glo_ok X G (c.facts (List.mem_of_getElem? (i := 52) rfl))
theorem G_Rules : mg "Rules" = some (.ref (He.ga K "Rules")) := He.glo_ok X G (c.facts (List.mem_of_getElem? (i := 53) rfl))
theorem g_len : mg "len" = none := He.free_ok X G (c.facts (List.mem_of_getElem? (i := 54) rfl))
theorem g_isinstance : mg "isinstance" = none := He.free_ok X G (c.facts (List.mem_of_getElem? (i := 55) rfl))
theorem g_list : mg "list" = none := He.free_ok X G (c.facts (List.mem_of_getElem? (i := 56) rfl))
theorem g_tuple : mg "tuple" = none := He.free_ok X G (c.facts (List.mem_of_getElem? (i := 57) rfl))
theorem g_dict : mg "dict" = none := He.free_ok X G (c.facts (List.mem_of_getElem? (i := 58) rfl))
theorem g_int : mg "int" = none := He.free_ok X G (c.facts (List.mem_of_getElem? (i := 59) rfl))
theorem g_str : mg "str" = none := He.free_ok X G (c.facts (List.mem_of_getElem? (i := 60) rfl))
theorem g_sorted : mg "sorted" = none := He.free_ok X G (c.facts (List.mem_of_getElem? (i := 61) rfl))
theorem g_range : mg "range" = none := He.free_ok X G (c.facts (List.mem_of_getElem? (i := 62) rfl))
theorem g_zip : mg "zip" = none := He.free_ok X G (c.facts (List.mem_of_getElem? (i := 63) rfl))
theorem g_all : mg "all" = none := He.free_ok X G (c.facts (List.mem_of_getElem? (i := 64) rfl))
theorem g_enumerate : mg "enumerate" = none := He.free_ok X G (c.facts (List.mem_of_getElem? (i := 65) rfl))
theorem g_bool : mg "bool" = none := He.free_ok X G (c.facts (List.mem_of_getElem? (i := 66) rfl))
theorem i_LONGEST : ∃ t, mg "LONGEST" = some (.int 60 t) := He.int_ok X G (c.facts (List.mem_of_getElem? (i := 71) rfl))
theorem i_MOST : ∃ t, mg "MOST" = some (.int 8 t) := He.int_ok X G (c.facts (List.mem_of_getElem? (i := 72) rfl))
theorem s_SMALL : ∃ t, mg "SMALL" = some (.str "abcdefghijklmnopqrstuvwxyz" t) := He.str_ok X G (c.facts (List.mem_of_getElem? (i := 73) rfl))
theorem DI_Rules : DefI K mg "Rules" (He.ga K "Rules") "Rules.__init__" (mthd (top 26) 0) := defI_of c X G (List.mem_of_getElem? (i := 53) rfl) (List.mem_of_getElem? (i := 67) rfl) (List.mem_of_getElem? (i := 39) rfl)
omit X G
theorem c_Rules : Cls K (He.ga K "Rules") := He.cls_ok (c.facts (List.mem_of_getElem? (i := 68) rfl))
theorem a_Rules_alphabet : NoAttr K (He.ga K "Rules") "alphabet" := He.noat_ok (c.facts (List.mem_of_getElem? (i := 69) rfl))
theorem a_Rules_held : NoAttr K (He.ga K "Rules") "held" := He.noat_ok (c.facts (List.mem_of_getElem? (i := 70) rfl))
omit c
variable (e : ex K = true)
include e
theorem e_BadRules : ErrC K "BadRules" "thing" := errB_ok (Bool.and_eq_true_iff.mp e).1
theorem e_BadLetters : ErrC K "BadLetters" "thing" := errB_ok (Bool.and_eq_true_iff.mp (Bool.and_eq_true_iff.mp e).2).1
theorem e_BadPairs : ErrC K "BadPairs" "index" := errB_ok (Bool.and_eq_true_iff.mp (Bool.and_eq_true_iff.mp (Bool.and_eq_true_iff.mp e).2).2).1
theorem e_BadWord : ErrC K "BadWord" "thing" := errB_ok (Bool.and_eq_true_iff.mp (Bool.and_eq_true_iff.mp (Bool.and_eq_true_iff.mp (Bool.and_eq_true_iff.mp e).2).2).2).1
theorem e_BadOther : ErrC K "BadOther" "thing" := errB_ok (Bool.and_eq_true_iff.mp (Bool.and_eq_true_iff.mp (Bool.and_eq_true_iff.mp (Bool.and_eq_true_iff.mp (Bool.and_eq_true_iff.mp e).2).2).2).2).1
theorem e_BadFar : ErrC K "BadFar" "thing" := errB_ok (Bool.and_eq_true_iff.mp (Bool.and_eq_true_iff.mp (Bool.and_eq_true_iff.mp (Bool.and_eq_true_iff.mp (Bool.and_eq_true_iff.mp (Bool.and_eq_true_iff.mp e).2).2).2).2).2).1
theorem e_BadStep : ErrC K "BadStep" "thing" := errB_ok (Bool.and_eq_true_iff.mp (Bool.and_eq_true_iff.mp (Bool.and_eq_true_iff.mp (Bool.and_eq_true_iff.mp (Bool.and_eq_true_iff.mp (Bool.and_eq_true_iff.mp (Bool.and_eq_true_iff.mp e).2).2).2).2).2).2).1
theorem e_BadRow : ErrC K "BadRow" "index" := errB_ok (Bool.and_eq_true_iff.mp (Bool.and_eq_true_iff.mp (Bool.and_eq_true_iff.mp (Bool.and_eq_true_iff.mp (Bool.and_eq_true_iff.mp (Bool.and_eq_true_iff.mp (Bool.and_eq_true_iff.mp (Bool.and_eq_true_iff.mp e).2).2).2).2).2).2).2).1
theorem e_BadTrees : ErrC K "BadTrees" "thing" := errB_ok (Bool.and_eq_true_iff.mp (Bool.and_eq_true_iff.mp (Bool.and_eq_true_iff.mp (Bool.and_eq_true_iff.mp (Bool.and_eq_true_iff.mp (Bool.and_eq_true_iff.mp (Bool.and_eq_true_iff.mp (Bool.and_eq_true_iff.mp (Bool.and_eq_true_iff.mp e).2).2).2).2).2).2).2).2).1
theorem e_BadMany : ErrC K "BadMany" "thing" := errB_ok (Bool.and_eq_true_iff.mp (Bool.and_eq_true_iff.mp (Bool.and_eq_true_iff.mp (Bool.and_eq_true_iff.mp (Bool.and_eq_true_iff.mp (Bool.and_eq_true_iff.mp (Bool.and_eq_true_iff.mp (Bool.and_eq_true_iff.mp (Bool.and_eq_true_iff.mp (Bool.and_eq_true_iff.mp e).2).2).2).2).2).2).2).2).2).1
theorem e_BadLength : ErrC K "BadLength" "thing" := errB_ok (Bool.and_eq_true_iff.mp (Bool.and_eq_true_iff.mp (Bool.and_eq_true_iff.mp (Bool.and_eq_true_iff.mp (Bool.and_eq_true_iff.mp (Bool.and_eq_true_iff.mp (Bool.and_eq_true_iff.mp (Bool.and_eq_true_iff.mp (Bool.and_eq_true_iff.mp (Bool.and_eq_true_iff.mp (Bool.and_eq_true_iff.mp e).2).2).2).2).2).2).2).2).2).2).1
theorem e_BadMachine : ErrC K "BadMachine" "thing" := errB_ok (Bool.and_eq_true_iff.mp (Bool.and_eq_true_iff.mp (Bool.and_eq_true_iff.mp (Bool.and_eq_true_iff.mp (Bool.and_eq_true_iff.mp (Bool.and_eq_true_iff.mp (Bool.and_eq_true_iff.mp (Bool.and_eq_true_iff.mp (Bool.and_eq_true_iff.mp (Bool.and_eq_true_iff.mp (Bool.and_eq_true_iff.mp (Bool.and_eq_true_iff.mp e).2).2).2).2).2).2).2).2).2).2).2).1
theorem e_TooMany : ErrC K "TooMany" "many" := errB_ok (Bool.and_eq_true_iff.mp (Bool.and_eq_true_iff.mp (Bool.and_eq_true_iff.mp (Bool.and_eq_true_iff.mp (Bool.and_eq_true_iff.mp (Bool.and_eq_true_iff.mp (Bool.and_eq_true_iff.mp (Bool.and_eq_true_iff.mp (Bool.and_eq_true_iff.mp (Bool.and_eq_true_iff.mp (Bool.and_eq_true_iff.mp (Bool.and_eq_true_iff.mp (Bool.and_eq_true_iff.mp e).2).2).2).2).2).2).2).2).2).2).2).2).1
theorem exm_ok : exmB K errNs = true := (Bool.and_eq_true_iff.mp (Bool.and_eq_true_iff.mp (Bool.and_eq_true_iff.mp (Bool.and_eq_true_iff.mp (Bool.and_eq_true_iff.mp (Bool.and_eq_true_iff.mp (Bool.and_eq_true_iff.mp (Bool.and_eq_true_iff.mp (Bool.and_eq_true_iff.mp (Bool.and_eq_true_iff.mp (Bool.and_eq_true_iff.mp (Bool.and_eq_true_iff.mp (Bool.and_eq_true_iff.mp (Bool.and_eq_true_iff.mp e).2).2).2).2).2).2).2).2).2).2).2).2).2).1
theorem own_Rules (c : Cls K (He.ga K "Rules")) : OwnC K (He.ga K "Rules") := ownB_ok c (Bool.and_eq_true_iff.mp (Bool.and_eq_true_iff.mp (Bool.and_eq_true_iff.mp (Bool.and_eq_true_iff.mp (Bool.and_eq_true_iff.mp (Bool.and_eq_true_iff.mp (Bool.and_eq_true_iff.mp (Bool.and_eq_true_iff.mp (Bool.and_eq_true_iff.mp (Bool.and_eq_true_iff.mp (Bool.and_eq_true_iff.mp (Bool.and_eq_true_iff.mp (Bool.and_eq_true_iff.mp (Bool.and_eq_true_iff.mp e).2).2).2).2).2).2).2).2).2).2).2).2).2).2
include c X G
theorem X_BadRules : OkX P w K mg base "BadRules" (He.ga K "BadRules") "thing" := okX_of (y := "thing") (s := mthd (top 10) 0) c X G (e_BadRules e) (List.mem_of_getElem? (i := 48) rfl) (List.mem_of_getElem? (i := 40) rfl) rfl ⟨rfl, rfl, rfl, by decide +kernel, rfl, by decide +kernel, by decide +kernel⟩ (.inl rfl) (.inl rfl) fun _ _ _ _ _ _ us hl => match us, hl with | [_, _], _ => rfl
theorem X_BadLetters : OkX P w K mg base "BadLetters" (He.ga K "BadLetters") "thing" := okX_of (y := "thing") (s := mthd (top 4) 0) c X G (e_BadLetters e) (List.mem_of_getElem? (i := 42) rfl) (List.mem_of_getElem? (i := 41) rfl) rfl ⟨rfl, rfl, rfl, by decide +kernel, rfl, by decide +kernel, by decide +kernel⟩ (.inl rfl) (.inl rfl) fun _ _ _ _ _ _ us hl => match us, hl with | [_, _], _ => rfl
theorem X_BadPairs : OkX P w K mg base "BadPairs" (He.ga K "BadPairs") "index" := okX_of (y := "index") (s := mthd (top 8) 0) c X G (e_BadPairs e) (List.mem_of_getElem? (i := 46) rfl) (List.mem_of_getElem? (i := 42) rfl) rfl ⟨rfl, rfl, rfl, by decide +kernel, rfl, by decide +kernel, by decide +kernel⟩ (.inl rfl) (.inl rfl) fun _ _ _ _ _ _ us hl => match us, hl with | [_, _], _ => rfl
theorem X_BadWord : OkX P w K mg base "BadWord" (He.ga K "BadWord") "thing" := okX_of (y := "thing") (s := mthd (top 13) 0) c X G (e_BadWord e) (List.mem_of_getElem? (i := 51) rfl) (List.mem_of_getElem? (i := 43) rfl) rfl ⟨rfl, rfl, rfl, by decide +kernel, rfl, by decide +kernel, by decide +kernel⟩ (.inl rfl) (.inl rfl) fun _ _ _ _ _ _ us hl => match us, hl with | [_, _], _ => rfl
theorem X_BadOther : OkX P w K mg base "BadOther" (He.ga K "BadOther") "thing" := okX_of (y := "thing") (s := mthd (top 7) 0) c X G (e_BadOther e) (List.mem_of_getElem? (i := 45) rfl) (List.mem_of_getElem? (i := 44) rfl) rfl ⟨rfl, rfl, rfl, by decide +kernel, rfl, by decide +kernel, by decide +kernel⟩ (.inl rfl) (.inl rfl) fun _ _ _ _ _ _ us hl => match us, hl with | [_, _], _ => rfl
theorem X_BadFar : OkX P w K mg base "BadFar" (He.ga K "BadFar") "thing" := okX_of (y := "thing") (s := mthd (top 2) 0) c X G (e_BadFar e) (List.mem_of_getElem? (i := 40) rfl) (List.mem_of_getElem? (i := 45) rfl) rfl ⟨rfl, rfl, rfl, by decide +kernel, rfl, by decide +kernel, by decide +kernel⟩ (.inl rfl) (.inl rfl) fun _ _ _ _ _ _ us hl => match us, hl with | [_, _], _ => rfl
theorem X_BadStep : OkX P w K mg base "BadStep" (He.ga K "BadStep") "thing" := okX_of (y := "thing") (s := mthd (top 11) 0) c X G (e_BadStep e) (List.mem_of_getElem? (i := 49) rfl) (List.mem_of_getElem? (i := 46) rfl) rfl ⟨rfl, rfl, rfl, by decide +kernel, rfl, by decide +kernel, by decide +kernel⟩ (.inl rfl) (.inl rfl) fun _ _ _ _ _ _ us hl => match us, hl with | [_, _], _ => rfl
theorem X_BadRow : OkX P w K mg base "BadRow" (He.ga K "BadRow") "index" := okX_of (y := "index") (s := mthd (top 9) 0) c X G (e_BadRow e) (List.mem_of_getElem? (i := 47) rfl) (List.mem_of_getElem? (i := 47) rfl) rfl ⟨rfl, rfl, rfl, by decide +kernel, rfl, by decide +kernel, by decide +kernel⟩ (.inl rfl) (.inl rfl) fun _ _ _ _ _ _ us hl => match us, hl with | [_, _], _ => rfl
theorem X_BadTrees : OkX P w K mg base "BadTrees" (He.ga K "BadTrees") "thing" := okX_of (y := "thing") (s := mthd (top 12) 0) c X G (e_BadTrees e) (List.mem_of_getElem? (i := 50) rfl) (List.mem_of_getElem? (i := 48) rfl) rfl ⟨rfl, rfl, rfl, by decide +kernel, rfl, by decide +kernel, by decide +kernel⟩ (.inl rfl) (.inl rfl) fun _ _ _ _ _ _ us hl => match us, hl with | [_, _], _ => rfl
theorem X_BadMany : OkX P w K mg base "BadMany" (He.ga K "BadMany") "thing" := okX_of (y := "thing") (s := mthd (top 6) 0) c X G (e_BadMany e) (List.mem_of_getElem? (i := 44) rfl) (List.mem_of_getElem? (i := 49) rfl) rfl ⟨rfl, rfl, rfl, by decide +kernel, rfl, by decide +kernel, by decide +kernel⟩ (.inl rfl) (.inl rfl) fun _ _ _ _ _ _ us hl => match us, hl with | [_, _], _ => rfl
theorem X_BadLength : OkX P w K mg base "BadLength" (He.ga K "BadLength") "thing" := okX_of (y := "thing") (s := mthd (top 3) 0) c X G (e_BadLength e) (List.mem_of_getElem? (i := 41) rfl) (List.mem_of_getElem? (i := 50) rfl) rfl ⟨rfl, rfl, rfl, by decide +kernel, rfl, by decide +kernel, by decide +kernel⟩ (.inl rfl) (.inl rfl) fun _ _ _ _ _ _ us hl => match us, hl with | [_, _], _ => rfl
theorem X_BadMachine : OkX P w K mg base "BadMachine" (He.ga K "BadMachine") "thing" := okX_of (y := "thing") (s := mthd (top 5) 0) c X G (e_BadMachine e) (List.mem_of_getElem? (i := 43) rfl) (List.mem_of_getElem? (i := 51) rfl) rfl ⟨rfl, rfl, rfl, by decide +kernel, rfl, by decide +kernel, by decide +kernel⟩ (.inl rfl) (.inl rfl) fun _ _ _ _ _ _ us hl => match us, hl with | [_, _], _ => rfl
theorem X_TooMany : OkX P w K mg base "TooMany" (He.ga K "TooMany") "many" := okX_of (y := "many") (s := mthd (top 14) 0) c X G (e_TooMany e) (List.mem_of_getElem? (i := 52) rfl) (List.mem_of_getElem? (i := 52) rfl) rfl ⟨rfl, rfl, rfl, by decide +kernel, rfl, by decide +kernel, by decide +kernel⟩ (.inl rfl) (.inl rfl) fun _ _ _ _ _ _ us hl => match us, hl with | [_, _], _ => rfl
end
end K03

set_option Elab.async false
set_option linter.all false
set_option maxRecDepth 100000
set_option maxHeartbeats 4000000
/-! DM7: startswith(x, i), xs[::-1], list(dict), dict(pairs), a comprehension over an empty dict, f(k = v, ..). -/
namespace DL
open PySem PySem.Spec PyProof.Rows L2 Evl
theorem ty_str {X : Cx} : TyOk X "str" (fun x _ => ∃ a, x = .str a) := by
  intro pins σ H s x v I r ⟨a, e⟩
  subst e
  obtain ⟨t, rfl⟩ := r
  exact ⟨typeIs_str _ _ _, fun a e => by cases e⟩
section
variable {S : Sit} {n : Nat} {Γ : Slots} {K : Nat → Slots → OT → Prop} {KB : Nat → Slots → Bool → Prop} {P : Post} {pos p apos : Pos}
theorem he_starts3 {o e1 e2 : Expr} (h : HE S o n Γ fun n1 Γ1 x => ∃ a, x = .frz (.str a) ∧ HA S [e1, e2] n1 Γ1 fun n2 Γ2 rs => ∃ b i, rs = [.frz (.str b), .frz (.int i)] ∧ K n2 Γ2 (.frz (.bl (Txt.startswith3 a b i))))
    (hbase : attributeBase o "startswith" S.X.env (eval o S.X.env) = eval o S.X.env := by rfl)
    (hfew : ((backTo pos (starEach (e1 :: [e2]) S.X.env)).all (fun x => !x.1) && (backToKw pos (keywordEach [] S.X.env)).all (fun x => x.1.isSome)
      && decide ((e1 :: [e2]).length + ([] : List Keyword).length + (if ([] : List Keyword).isEmpty then 0 else 1) < 30)) = true := by rfl)
    (hline : (apos.endLine == pos.line) = true := by rfl) (hs : starEach (e1 :: [e2]) S.X.env = (false, eval e1 S.X.env) :: starEach [e2] S.X.env := by rfl) (hplain : (backTo pos (starEach [e2] S.X.env)).any (·.1) = false := by rfl) :
    HE S (.Call (.Attribute o "startswith" apos) [e1, e2] [] pos) n Γ K := by
  intro Δ σ vs H Q at0 q
  refine ⟨_, pe_mG ty_str F.plainAttrs_str F.slot_str_startswith F.type_str_startswith mt_startswith3 pe_c pa_c hbase hfew hline hs hplain, h Δ σ vs H _ at0 fun n1 Γ1 x v H1 ⟨a, ex, he⟩ a1 => ?_⟩
  subst ex
  obtain ⟨B, _, e0⟩ := At.val a1
  refine ⟨⟨a, e0⟩, he _ σ _ H1 _ a1 fun n2 Γ2 rs xs H2 ⟨b, i, er, hk⟩ hl a2 => ?_⟩
  subst er
  obtain ⟨y, z, rfl⟩ := two_of hl
  obtain ⟨B2, F2, G2, k2⟩ := a2
  obtain ⟨y', ys, F3, F4, e1, e2, e3, e4⟩ := k2.tm
  obtain ⟨rfl, rfl⟩ := List.cons.inj e1
  obtain ⟨z', zs, F5, F6, e5, e6, e7, e8⟩ := e4
  obtain ⟨rfl, rfl⟩ := List.cons.inj e5
  have ey : y = .str b := e3.2
  have ez : z = .int i := e7.2
  refine ⟨a, b, i, e0, by rw [ey, ez], q n2 Γ2 _ _ H2 hk ?_⟩
  have a3 := At.pops (rs := [OT.frz (.str b), OT.frz (.int i)]) (xs := [y, z]) ⟨B2, F2, G2, k2⟩ rfl
  exact a3.pop.flat fun _ => rfl
/-- xs[::-1] -/
theorem he_revL {e : Expr} {k : Nat} {p1 p2 p3 : Pos} (h : HE S e n Γ fun n1 Γ1 r => ∃ ds, r.d = .lst ds ∧ K n1 Γ1 (.ol (ds.reverse.map .frz))) : HE S (.Subscript e (.Slice none none (some (.UnaryOp .USub (.Constant (.int 1) k p1) p2)) p3) pos) n Γ K := by
  intro Δ σ vs H Q at0 q
  refine ⟨_, pe_revL pe_c, h Δ σ vs H _ at0 fun n1 Γ1 r v H1 ⟨ds, hr, hk⟩ a1 => ?_⟩
  have a1 := At.frz1 a1
  rw [hr] at a1
  obtain ⟨B, F, G, k1, a, xs, rfl, e1, e2⟩ := At.open1 a1
  refine ⟨a, xs, rfl, .inl (.inl (k1.evo.sub _ _ e1)), fun p hp => q n1 Γ1 _ _ _ hk (k1.newL hp ?_)⟩
  have rv : ∀ {ds : List D} {xs : List V}, RpL S.X.K B ds xs → RpL S.X.K B ds.reverse xs.reverse := by
    intro ds
    induction ds with
    | nil => intro xs h; have : xs = [] := h; subst this; rfl
    | cons d ds ih =>
      intro xs h
      obtain ⟨y, ys, rfl, h1, h2⟩ := h
      rw [List.reverse_cons, List.reverse_cons]
      exact (ih h2).append (RpL.one h1)
  exact rv e2
theorem zip_keys : ∀ {kk : List Key} {xs : List V}, kk.length = xs.length → (kk.zip xs).map (fun kv => kV kv.1) = kk.map kV
  | [], _, _ => rfl
  | k :: kk, [], h => by cases h
  | k :: kk, x :: xs, h => by
    show kV k :: (kk.zip xs).map (fun kv => kV kv.1) = _
    rw [zip_keys (Nat.succ.inj h)]
    rfl
theorem keys_rp {KK : PySem.W.Frag} {B : Hp} : ∀ kk : List Key, RpL KK B (kk.map kD) (kk.map kV)
  | [] => rfl
  | k :: kk => ⟨_, _, rfl, by cases k <;> rfl, keys_rp kk⟩
/-- list(d) -/
theorem hf_listK {ks ds : List D} (hc : S.X.calm = true) (k : K n Γ (.ol (ks.map .frz))) : HF S (.type "list") [.frz (.dct ks ds)] n Γ K := by
  intro Δ σ xs vs H Q hl a q
  obtain ⟨v, rfl⟩ := one_of hl
  obtain ⟨B, F, G, k1, p, ys, rfl, h2, kk, h3, h4, h5⟩ := At.open1 a
  refine ⟨_, call_listD hc, p, _, rfl, .inl (k1.evo.sub _ _ h5), fun l hl => ?_⟩
  rw [zip_keys h4]
  refine q n Γ _ _ _ k (k1.newL hl ?_)
  rw [keysD_map h3]
  exact keys_rp kk
/-- dict([]) -/
theorem hf_dict0 (hc : S.X.calm = true) (k : K n Γ (dctO [])) : HF S (.type "dict") [.frz (.lst [])] n Γ K := by
  intro Δ σ xs vs H Q hl a q
  obtain ⟨v, rfl⟩ := one_of hl
  obtain ⟨B, F, G, k1, p, ys, rfl, h2, h3⟩ := At.open1 a
  have : ys = [] := h3
  subst this
  refine ⟨_, call_dictP hc, p, [], [], rfl, .inl (.inl (k1.evo.sub _ _ h2)), .nil, fun l hl => q n Γ _ _ _ k ⟨B, F, [l] ++ G, ?_⟩⟩
  refine k1.push (G1 := [l]) (Grow.own k1.evo.sub hl) (dctO_rp (kvs := []) upd_same rfl) (fun b hb => ?_) fun b => ?_
  · have : b = l := by
      have := List.count_pos_iff.mp hb
      simpa using this
    subst this
    exact ⟨hl, fresh_back k1.evo.sub hl⟩
  · rw [List.count_cons]
    simp
    split <;> omega
end
/-! ### keywords -/
section
variable {P : Program} {w : World} {K : PySem.W.Frag} {mg : Str → Option Value} {base : Heap} {st cs : Addr} {T : List (Addr × Str)} {x : Str} {N ps : List Str}
/-- the def of x keeps sp; what it is, is known -/
def OkK (P : Program) (w : World) (K : PySem.W.Frag) (mg : Str → Option Value) (base : Heap) (Z : Wd) (k : Nat) (x : Str) (s : Stmt) (ps : List Str) (sp : FSpec) : Prop :=
  ∃ f fd, mg x = some (.ref f) ∧ FunD K x x (defArgs s) (defBody s) (defScope s) [] [] f fd ∧ FnOk P w K mg base (L2.CX P w) k f fd ps (SpD Z ps.length sp)
theorem OkK.ok {Z : Wd} {k : Nat} {s : Stmt} {sp : FSpec} (h : OkK P w K mg base Z k x s ps sp)
    (hbind : ∀ (kV doc pm : Value) (an : Option Addr) (cdv ct : Value) (us : List Value), us.length = ps.length → bindArgs (PySem.W.fnOf x x (defArgs s) (defBody s) (defScope s) .none kV doc pm an cdv ct) ⟨us, []⟩ = pure (ps.zip us)) : OkF P w K mg base Z k x ps sp := by
  obtain ⟨f, fd, h1, h2, h3⟩ := h
  exact ⟨f, fd, h1, h2.kp, h2.bindsN hbind, h3⟩
theorem OkK.mono {Z : Wd} {j k : Nat} {s : Stmt} {sp : FSpec} (h : OkK P w K mg base Z j x s ps sp) (hk : j ≤ k) : OkK P w K mg base Z k x s ps sp := by
  obtain ⟨f, fd, h1, h2, h3⟩ := h
  exact ⟨f, fd, h1, h2, h3.mono hk⟩
theorem fn_pureK {s : Stmt} {k : Nat} {R : PSpec} (d : Def1 K mg x s) (Sc : FnScope N ps (defScope s))
    (hb : ∀ f (ds : List D) (b : Bp P w K mg base N x (defScope s) f st cs T (ds.map .frz)) (n : Nat) (KP : Nat → OT → Prop) (XP0 : Nat → Addr → List Str → List D → Prop), Room k b.S.X.A → ds.length = ps.length → R ds n KP XP0 →
      (∀ n Γ C ns ds, XP0 n C ns ds → b.S.XP n Γ C ns ds) →
      HSs b.S (defBody s) n ((ds.map .frz).map some ++ List.replicate (N.length - ps.length) none) { nx := fun n' _ => KP n' (.frz .non), rt := fun n' _ r => KP n' r }) :
    OkK P w K mg base ⟨K, st, cs, T⟩ (k + 1) x s ps (pureSp R) := by
  obtain ⟨f, fd, h1, h2⟩ := d
  refine ⟨f, fd, h1, h2, fn_sp h2 Sc fun cdv A outer s' H B M vs EX W XP as n KP XP0 tk xo po hr hl hlv hsp hx => ?_⟩
  obtain ⟨ds, rfl, hR⟩ := hsp
  have h := hb f ds ⟨cdv, A, outer, s', H, B, M, vs, hlv, EX, W, XP, tk, xo, po⟩ n (fun n' r => KP n' (ds.map .frz) r) XP0 hr (by simpa using hl) hR hx
  intro Δ σ vs H D a m
  exact h Δ σ vs H D a ⟨fun n Γ σ H j => m.nx n Γ σ H ⟨_, outs_frz ds Γ, j⟩, fun n Γ r σ v H j => m.rt n Γ r σ v H ⟨_, outs_frz ds Γ, j⟩, fun _ _ _ _ j => j.elim, fun _ _ _ _ j => j.elim⟩
end
/-- the values of keywords -/
def HK (S : Sit) (kws : List Keyword) (n : Nat) (Γ : Slots) (K : Nat → Slots → List OT → Prop) : Prop :=
  ∀ Δ σ vs H Q, S.At n Γ Δ σ vs H → (∀ n' Γ' rs xs H2, K n' Γ' rs → xs.length = rs.length → S.At n' Γ' (rs ++ Δ) σ (xs ++ vs) H2 → Q xs H2) → ∃ t, PK S.X kws t ∧ t σ H Q
section
variable {S : Sit} {n : Nat} {Γ : Slots} {K : Nat → Slots → OT → Prop} {KA : Nat → Slots → List OT → Prop} {pos p kpos : Pos} {nm : Option Str}
theorem hk_nil (k : KA n Γ []) : HK S [] n Γ KA := fun Δ σ vs H Q at0 q => ⟨_, pk_nil, q n Γ [] [] H k rfl at0⟩
theorem hk_cons {e : Expr} {kws : List Keyword} (h : HE S e n Γ fun n1 Γ1 r => HK S kws n1 Γ1 fun n2 Γ2 rs => KA n2 Γ2 (r :: rs)) : HK S (⟨nm, e, kpos⟩ :: kws) n Γ KA := by
  intro Δ σ vs H Q at0 q
  refine ⟨_, pk_cons pe_c (t := fun σ H Q => ∃ t, PK S.X kws t ∧ t σ H Q) ⟨fun pos pins s σ H Q I ⟨t, h1, h2⟩ => h1.run pos pins s σ H Q I h2⟩, h Δ σ vs H _ at0 fun n1 Γ1 r v H1 hk a1 => ?_⟩
  refine hk (r :: Δ) σ (v :: vs) H1 _ a1 fun n2 Γ2 rs xs H2 hk2 hl a2 => ?_
  obtain ⟨B, F, G, k2⟩ := a2
  obtain ⟨G', k3⟩ := k2.rot hl
  exact q n2 Γ2 (r :: rs) (v :: xs) H2 hk2 (by rw [List.length_cons, List.length_cons, hl]) ⟨B, F, G', k3⟩
end
/-- the values in the parameters' order -/
def pk {α : Type} (is : List Nat) (l : List α) : List α := is.filterMap fun i => l[i]?
theorem pk_rp {KK : PySem.W.Frag} {B : Hp} {ds : List D} {xs : List V} (h : RpL KK B ds xs) : ∀ is : List Nat, RpL KK B (pk is ds) (pk is xs)
  | [] => rfl
  | i :: is => by
    unfold pk
    rw [List.filterMap_cons, List.filterMap_cons]
    cases e : ds[i]? with
    | none =>
      have : xs[i]? = none := List.getElem?_eq_none (by have := List.getElem?_eq_none_iff.mp e; rw [h.len]; exact this)
      rw [this]
      exact pk_rp h is
    | some d =>
      obtain ⟨x, ex, hx⟩ := h.get e
      rw [ex]
      exact ⟨x, _, rfl, hx, pk_rp h is⟩
theorem vals_get : ∀ {vs : List V} {us : List Value}, Vals vs us → ∀ i : Nat, (vs[i]? = none ∧ us[i]? = none) ∨ ∃ v u, vs[i]? = some v ∧ us[i]? = some u ∧ RelV v u
  | _, _, .nil, i => .inl ⟨rfl, rfl⟩
  | _, _, .cons r t, 0 => .inr ⟨_, _, rfl, rfl, r⟩
  | _, _, .cons r t, i + 1 => vals_get t i
theorem pk_vals {vs : List V} {us : List Value} (h : Vals vs us) : ∀ is : List Nat, Vals (pk is vs) (pk is us)
  | [] => .nil
  | i :: is => by
    unfold pk
    rw [List.filterMap_cons, List.filterMap_cons]
    rcases vals_get h i with ⟨e1, e2⟩ | ⟨v, u, e1, e2, r⟩
    · rw [e1, e2]; exact pk_vals h is
    · rw [e1, e2]; exact .cons r (pk_vals h is)
theorem pk_map {α β : Type} (f : α → β) (l : List α) : ∀ is : List Nat, pk is (l.map f) = (pk is l).map f
  | [] => rfl
  | i :: is => by
    unfold pk
    rw [List.filterMap_cons, List.filterMap_cons, List.getElem?_map]
    cases e : l[i]? with
    | none => exact pk_map f l is
    | some d =>
      show f d :: _ = f d :: _
      exact congrArg _ (pk_map f l is)
def gK {α : Type} (is : List Nat) (m : Nat) (us ws : List α) : List α := match us with
  | [] => if ws.length = m then pk is ws else []
  | _ => []
section
variable {S : Sit} {n : Nat} {Γ : Slots} {K : Nat → Slots → OT → Prop} {pos p : Pos}
/-- f(k = e, ..), nothing by place, nothing let out -/
theorem he_callKW {x : Str} {s : Stmt} {ps : List Str} {R : PSpec} {k : Nat} {kws : List Keyword} (ks : List Str) (is : List Nat) (O : OkK S.X.prog S.X.w S.X.K S.X.mg S.X.base S.Z k x s ps (pureSp R)) (hr : Room k S.X.A)
    (h : HK S kws n Γ fun n1 Γ1 rs => rs.length = ks.length ∧ (pk is rs).length = ps.length ∧ R ((pk is rs).map OT.d) n1 (fun n' r => K n' Γ1 r) fun _ _ _ _ => False)
    (hbind : ∀ (kV doc pm : Value) (an : Option Addr) (cdv ct : Value) (ws : List Value), ws.length = ks.length → bindArgs (PySem.W.fnOf x x (defArgs s) (defBody s) (defScope s) .none kV doc pm an cdv ct) ⟨[], ks.zip ws⟩ = pure (ps.zip (pk is ws))) (hne : ps ≠ [])
    (hall : (backToKw pos (keywordEach kws S.X.env)).all (·.1.isSome) = true := by rfl) (hks : (backToKw pos (keywordEach kws S.X.env)).filterMap (·.1) = ks := by rfl)
    (hpl : ((backTo pos (starEach [] S.X.env)).any (·.1) || (backToKw pos (keywordEach kws S.X.env)).any (·.1.isNone)) = false := by rfl)
    (hg : Gl S.X x := by rfl) (hdb : (x == ("__debug__" : Str)) = false := by decide) : HE S (.Call (.Name x p) [] kws pos) n Γ K := by
  obtain ⟨f, fd, o1, FD, o4⟩ := O
  have hb : KBinds S.X.K fd ps ks (gK is ks.length) (gK is ks.length) := by
    obtain ⟨oc, od, dV, kV, doc, pm, an, cdv, ct, osl, rfl, lk, hcd, hD, hK⟩ := FD.ex
    rcases hD with ⟨_, rfl⟩ | ⟨e, _⟩
    · refine ⟨fun s us ws _ hl => ?_, fun {vs us zs ws} r1 r2 => ?_⟩
      · unfold gK at hl ⊢
        cases us with
        | cons u us => exact absurd (List.length_eq_zero_iff.mp hl.symm) hne
        | nil =>
          by_cases q : ws.length = ks.length
          · simp only [q, if_true] at hl ⊢
            exact .of_eq (hbind kV doc pm an cdv ct ws q)
          · simp only [q, if_false] at hl
            exact absurd (List.length_eq_zero_iff.mp hl.symm) hne
      · unfold gK
        cases r1 with
        | cons _ _ => exact .nil
        | nil =>
          have e : zs.length = ws.length := r2.length
          by_cases q : ws.length = ks.length
          · simp only [e, q, if_true]
            exact pk_vals r2 is
          · simp only [e, q, if_false]
            exact .nil
    · exact absurd rfl e
  intro Δ σ vs H Q at0 q
  obtain ⟨t, hpk, ht⟩ : ∃ t, PK S.X kws t ∧ t σ H fun zs H1 => (SpD S.Z ps.length (pureSp R)) (gK is ks.length [] zs) H1 Q fun _ _ _ => False := by
    refine h Δ σ vs H _ at0 fun n1 Γ1 rs xs H1 ⟨e1, e2, hR⟩ hl a1 => ?_
    have a1 := At.frzs a1 hl
    obtain ⟨B, F, G, a2⟩ := a1
    have e3 : gK is ks.length [] xs = pk is xs := by
      unfold gK
      simp only [hl, e1, if_true]
    rw [e3]
    have hsp : ∃ xs' ys G1 G2, xs ++ vs = xs' ++ ys ∧ xs'.length = (rs.map fun r => OT.frz r.d).length ∧ G = G1 ++ G2 ∧ RpOs S.Z.K H1 B (rs.map fun r => OT.frz r.d) xs' G1 ∧ RpOs S.Z.K H1 B Δ ys G2 := RpOs.split a2.tm
    obtain ⟨xs', ys, G1, G2, f1, f2, f3, f4, f5⟩ := hsp
    rw [List.length_map] at f2
    obtain ⟨rfl, rfl⟩ := List.append_inj f1 (by rw [hl, f2])
    have f4' : RpOs S.Z.K H1 B ((rs.map OT.d).map OT.frz) xs G1 := by rw [List.map_map]; exact f4
    obtain ⟨g1, rl⟩ := RpOs.frzs_inv f4'
    subst g1
    have rl2 := pk_rp rl is
    rw [pk_map] at rl2
    have rd : Ready S.Z n1 (((pk is rs).map OT.d).map OT.frz) (pk is xs) H1 B [] := ⟨a2.evo.sub, a2.str, a2.bst, a2.tab, RpOs.frzs rl2, fun a => by simp, fun a ha => by simp at ha⟩
    refine ⟨n1, _, B, [], fun n' _ r => K n' Γ1 r, fun _ _ _ _ => False, by rw [List.length_map, List.length_map]; exact e2, rd, ⟨_, rfl, hR⟩, fun n' outs r v H2 B2 F2 G3 hK c => ?_, fun n' C ns ds d H2 B2 hX _ => hX.elim⟩
    have a3 : AtB S.Z S.E n1 Γ1 Δ σ vs H1 B F G2 := by
      rw [List.nil_append] at f3
      subst f3
      exact ⟨a2.evo, a2.sl, f5, a2.nd, a2.out, a2.str, a2.bst, a2.tab, a2.pin⟩
    obtain ⟨G4, c1, c2, c3⟩ := a3.call (rs := []) (xs := []) rfl
    have eg : G4 = [] := c1.os.2
    subst eg
    refine q n' Γ1 r v H2 hK (c2 n' [] r v H2 B2 [] G3 ⟨c.evo, ⟨rfl, rfl⟩, c.rr, fun a => ?_, fun a ha => c.out a ?_, c.str, c.bst, c.tab⟩)
    · have := c.nd a
      simp
      omega
    · simp at ha
      have := List.count_pos_iff.mpr ha
      omega
  refine ⟨fun σ H Q => t σ H fun zs H1 => (SpD S.Z ps.length (pureSp R)) (gK is ks.length [] zs) H1 Q fun _ _ _ => False, ⟨fun pins s σ H Q I h => ?_⟩, ht⟩
  refine wpAny_Call_Name_kw (ld_glob I hg o1 ?_ hdb)
  refine PySem.W.callWith_KW0 (h₀ := S.X.base) I.ok.mod.kin FD.kp hall ?_ hpl
  refine thn (hpk.run pos pins s σ H _ I h) fun ws s2 ⟨zs, H2, I2, rz, q2⟩ => ⟨I2.kIn, ?_⟩
  rw [hks]
  refine run_fnk (us := []) (vs := []) o4 hr hb (fun pins σ H s e s' I ⟨a, B, H', cls, d, _, _, _, _, _, _, _, z⟩ => z.elim) I2 .nil rz q2
end
end DL

set_option Elab.async false
set_option linter.all false
set_option maxRecDepth 100000
set_option maxHeartbeats 4000000
/-! DM8: a comprehension over an empty dict. -/
namespace DL
open PySem PySem.Spec PyProof.Rows L2 Evl
theorem iteF {c : Bool} {A B : Prop} (h : c = false) (k : B) : if c = true then A else B := by rw [h, if_neg Bool.false_ne_true]; exact k
theorem iteT {c : Bool} {A B : Prop} (h : c = true) (k : A) : if c = true then A else B := by rw [h, if_pos rfl]; exact k
theorem hsl_fz {S : Sit} {n : Nat} {Γ : Slots} {K : Nat → Slots → OT → Prop} {lo hi : Option Int} {x : OT} (h : HSl S lo hi n Γ (.frz x.d) K) : HSl S lo hi n Γ x K := fun Δ σ v vs H Q a q => h Δ σ v vs H Q (At.frz1 a) q
section
variable {S : Sit} {n : Nat} {Γ : Slots} {K : Nat → Slots → OT → Prop} {pos p : Pos}
theorem he_lcD0 (i : Nat) {x : Str} {elt tg : Expr} {scope : Scope} (own : List (Str × Nat)) (g : TG) (hN0 : S.X.N[i]? = some x) (hv : Vis S.X.env.scope x) (he : Γ[i]? = some (some (.frz (.dct [] [])))) (k : K n Γ (.ol []))
    (ok : BlkOk S.X.N S.X.env.scope scope own) (hN : S.X.N.Nodup) (hg : ∀ (s : Shared) (H : Hp) (C : Addr) (cl : List (Str × Addr)) (fp : List Addr), PG (S.X.blk s H scope (compEnvC scope cl C S.X.env) fp) tg g)
    (hc : S.X.calm = true := by rfl) (hs : ∀ z, foldedSetIterable (.Name x p) S.X.env z = pure z := by intro _; rfl)
    (hd : (x == ("__debug__" : Str)) = false := by decide) (hcd : (x == ("__classdict__" : Str)) = false := by decide) : HE S (.ListComp elt [⟨tg, .Name x p, [], 0⟩] scope pos) n Γ K := by
  intro Δ σ vs H Q ⟨B, F, G, a⟩ q
  obtain ⟨v, h1, h2⟩ := a.sl.frz he
  obtain ⟨d, xs, rfl, h3, kk, h4, h5, h6⟩ := h2
  have hx : xs = [] := h3
  subst hx
  have hk : kk = [] := List.length_eq_zero_iff.mp h5
  subst hk
  have hH : H d = some (.dK []) := a.evo.sub _ _ h6
  refine ⟨_, pe_lock (pe_lc hc hN (pi_keys (pe_var hN0 hv hd hcd)) ok hg (fun _ _ _ _ _ => pts_nil) pe_b hs), d, _, hH, trivial, fun od => ?_⟩
  refine ⟨.ref d, h1, d, od, rfl, .inl ⟨[], upd_same, fun D hD => ?_⟩⟩
  have hne : d ≠ D := fun z => by rw [← z, upd_same] at hD; cases hD
  have hHD : H D = none := by rw [upd_ne hne.symm] at hD; exact hD
  refine ⟨fun i _ H2 => i = 0 ∧ H2 = upd (upd H d (.frz od (.dK []))) D (.lst []), ⟨0, rfl, rfl⟩, fun i m H2 ⟨e1, e2⟩ => ?_⟩
  subst e1 e2
  have hd2 : upd (upd H d (.frz od (.dK []))) D (.lst []) d = some (.frz od (.dK [])) := by rw [upd_ne hne, upd_same]
  refine .inl ⟨⟨hd2, Nat.le_refl _⟩, hd2, ?_⟩
  have e : upd (upd (upd H d (.frz od (.dK []))) D (.lst [])) d (.dK []) = upd H D (.lst []) := by
    funext b
    by_cases q1 : b = d
    · rw [q1, upd_same, upd_ne hne, hH]
    · rw [upd_ne q1]
      by_cases q2 : b = D
      · rw [q2, upd_same, upd_same]
      · rw [upd_ne q2, upd_ne q2, upd_ne q1]
  rw [e]
  exact q n Γ _ _ _ k (AtB.newL (ds := []) a hHD rfl)
end
end DL

set_option Elab.async false
set_option linter.all false
set_option maxRecDepth 100000
set_option maxHeartbeats 4000000
/-! DM9: a, b = a list. -/
namespace DL
open PySem PySem.Spec PyProof.Rows L2 Evl
section
variable {S : Sit} {n : Nat} {Γ : Slots} {P : Post} {pos : Pos}
theorem hs_unpL (is : List Nat) {es : List Expr} {e : Expr} {pt : Pos} {kt} (h : HE S e n Γ fun n1 Γ1 r => ∃ ds, r.d = .lst ds ∧ is.length = ds.length ∧ (∀ i ∈ is, i < Γ1.length ∧ S.E.P.getD i none = none) ∧ P.nx n1 (setAll Γ1 (is.zip (ds.map .frz))))
    (hg : PGs S.X es (gNames is)) (hn : (assignEach es S.X.env).length = is.length := by rfl) (hst : (assignEach es S.X.env).findIdx? (·.1) = none := by rfl) (hc : S.X.calm = true := by rfl)
    (hs : swapsWithSole [.Tuple es kt pt] e pos.line S.X.env = pure false := by rfl) (hw : swappedStores [.Tuple es kt pt] e S.X.env = pure none := by rfl)
    (h1 : (assignEach [.Tuple es kt pt] S.X.env).map (·.2) = [assign (.Tuple es kt pt) S.X.env] := by rfl) : HS S (.Assign [.Tuple es kt pt] e pos) n Γ P := by
  intro Δ σ vs H D at0 m
  refine ⟨_, ps_asg pe_c (pg_lst hc hg hn hst) hs hw h1, h Δ σ vs H _ at0 fun n1 Γ1 r v H1 ⟨ds, hr, hl, hi, hk⟩ a1 => ?_⟩
  have a1 := At.frz1 a1
  rw [hr] at a1
  obtain ⟨B, F, G, k1, a, xs, rfl, e1, e2⟩ := At.open1 a1
  have a2 : S.At n1 Γ1 (ds.map OT.frz ++ Δ) σ (xs ++ vs) H1 := ⟨B, F, G, k1.evo, k1.sl, by have := RpOs.app (RpOs.frzs e2) k1.tm; rwa [List.nil_append] at this, k1.nd, k1.out, k1.str, k1.bst, k1.tab, k1.pin⟩
  have hxl : xs.length = ds.length := e2.len
  refine ⟨a, xs, rfl, .inl (.inl (k1.evo.sub _ _ e1)), hxl.trans hl.symm, ?_⟩
  exact names_ok is (S := S) (by rw [List.length_map]; exact hl) (by rw [List.length_map]; exact hxl) hi a2 fun σ' a3 => m.nx n1 _ σ' H1 hk a3
end
end DL

set_option Elab.async false
set_option linter.all false
set_option maxRecDepth 100000
set_option maxHeartbeats 4000000
/-! DM10: f(x, y, lambda: body), where f hands the thing to call on to another def. -/
namespace DL
open PySem PySem.Spec PyProof.Rows L2 Evl LamX
theorem un_two {fs : List Addr} {H H1 H2 : Hp} {h h1 h2 : Heap} {L : Addr} (a : Un fs [] H H1 h h1) (b : Un (L :: fs) [] H1 H2 h1 h2) (hL : h.objs.size ≤ L) : Un fs [] H H2 h h2 where
  keep := fun c ob q n hc hx => b.keep c ob (a.keep c ob q n hc hx) (a.free c ob q n hx) (fun z => (List.mem_cons.mp z).elim (fun e => absurd (Heap.lt_size q) (by rw [e]; exact Nat.not_lt.mpr hL)) hc) hx
  slot := fun c ob q n hc hx => by
    obtain ⟨sl, e1⟩ := a.slot c ob q n hc hx
    obtain ⟨sl2, e2⟩ := b.any e1 (a.free c ob q n hx) hx
    exact ⟨sl2, e2⟩
  free := fun c ob q n hx => by
    obtain ⟨o', e1⟩ := a.there c ob q hx
    exact b.free c o' e1 (a.free c ob q n hx) hx
  there := fun c ob q hx => by
    obtain ⟨o', e1⟩ := a.there c ob q hx
    exact b.there c o' e1 hx
  tups := fun c xs q => b.tups c xs (a.tups c xs q)
  frzs := fun c ob xs q => b.frzs c ob xs (a.frzs c ob xs q)
  tbls := fun c ps q => by
    obtain ⟨m1, e1⟩ := a.tbls c ps q
    obtain ⟨m2, e2⟩ := b.tbls c _ e1
    exact ⟨m1 ++ m2, by rw [e2, Array.append_assoc]⟩
/-- from any state of this frame on: a def that gets the thing can run it -/
def RunOk2 (Z1 : Cx) (f c' : Addr) (q : Str) (tl : XK → Hp → VK → Prop) : Prop :=
  ∀ (pins : List (Addr × Obj)) (σ : L2.St) (H : Hp) (s : Shared), Inv Z1 pins σ H s → ∀ (Ng : List Str) (x a : Str) (sg : Scope) (g : Addr) (cdg : Value), Ng[0]? = some a → Vis sg a → (a == ("__debug__" : Str)) = false → (a == ("__classdict__" : Str)) = false →
    RunOk (gX Z1.prog Z1.w Z1.K Z1.mg Z1.base Ng x sg g cdg Z1.A Z1.stack s H) a f c' q tl
section
variable {X : Cx} {pins : List (Addr × Obj)} {σ : L2.St} {H : Hp} {s : Shared}
/-- x(), two calls deep -/
theorem pe_act2 {N1 Ng : List Str} {q1 qg : Str} {sc1 sg : Scope} {g1 g f c' : Addr} {cd1 cdg pm ctv : Value} {params : Arguments} {body : Expr} {scope : Scope} {k : Nat} {a : Str} {pn : List (Addr × Obj)} {xe : Value → Shared → Prop} {W : WX} {E : XK} {tb : TE} {p1 p2 : Pos}
    (I : Inv X pins σ H s) (L : LamS X.env.scope scope) (hf : s.heap.get? f = some (PySem.W.kla_obj "<lambda>" (X.env.qual ++ "<lambda>") params body scope (cloFrom X.env.cells scope.names []) pm c' ctv)) (hfn : H f = none) (hfr : f ∉ frs X.stack)
    (hbind : bindArgs (PySem.W.kla_fn "<lambda>" (X.env.qual ++ "<lambda>") params body scope (cloFrom X.env.cells scope.names []) pm (.ref c') ctv) ⟨[], []⟩ = pure [])
    {pinsB : List (Addr × Obj)} {σB : L2.St} {HB : Hp} {sB : Shared} (J : Inv (gX X.prog X.w X.K X.mg X.base N1 q1 sc1 g1 cd1 X.A X.stack s H).nox pinsB σB HB sB)
    (tk : Takes ((gX X.prog X.w X.K X.mg X.base Ng qg sg g cdg (gX X.prog X.w X.K X.mg X.base N1 q1 sc1 g1 cd1 X.A X.stack s H).nox.A (gX X.prog X.w X.K X.mg X.base N1 q1 sc1 g1 cd1 X.A X.stack s H).nox.stack sB HB).tr pn xe) W) (hW : ∀ cls d σ' H', E cls d H' → W cls d σ' H')
    (hr : Room (k + 2) (X.A.deeper (envOfC q1 sc1 s.heap.objs.size g1 cd1)))
    (hbody : ∀ (A : Around) (outer : List Env) (s : Shared) (H : Hp), Room k (A.deeper (lamEnv X scope s.heap.objs.size f c')) → PE (lamCx X A outer s H E scope f c') body tb)
    (hN : Ng[0]? = some a) (hv : Vis sg a) (hd : (a == ("__debug__" : Str)) = false) (hcd : (a == ("__classdict__" : Str)) = false) :
    PE ((gX X.prog X.w X.K X.mg X.base Ng qg sg g cdg (gX X.prog X.w X.K X.mg X.base N1 q1 sc1 g1 cd1 X.A X.stack s H).nox.A (gX X.prog X.w X.K X.mg X.base N1 q1 sc1 g1 cd1 X.A X.stack s H).nox.stack sB HB).tr pn xe) (.Call (.Name a p1) [] [] p2)
      (fun σZ HZ Q => σZ[0]? = some (some (.ref f)) ∧ HZ c' = some (CodeO c' (X.env.qual ++ "<lambda>")) ∧ tb σ HZ Q) := by
  refine ⟨fun pinsZ sZ σZ HZ Q IZ h => ?_⟩
  obtain ⟨hs, hc, ht⟩ := h
  refine wpAny_Call_Name_kw (thn ((pe_var (pos := p1) (i := 0) hN hv hd hcd).run pinsZ sZ σZ HZ (fun v H1 => v = .ref f ∧ H1 = HZ) IZ ⟨.ref f, hs, rfl, rfl⟩) fun u s1 ⟨v, H1, I1, r1, q1'⟩ => ?_)
  obtain ⟨ev, eH⟩ := q1'
  subst ev
  rw [eH] at I1
  obtain rfl : u = Value.ref f := r1
  have unJ : Un (frs X.stack) [] H HB s.heap sB.heap := J.base
  have unZ : Un (s.heap.objs.size :: frs X.stack) [] HB HZ sB.heap s1.heap := I1.base
  have un : Un (frs X.stack) [] H HZ s.heap s1.heap := un_two unJ unZ (Nat.le_refl _)
  have of1 := un.keep f _ hf hfn hfr (fun z => nomatch (show f ∈ ([] : List Addr) from z))
  refine PySem.W.callWith_F0 ⟨_, _, _, _, of1⟩ ?_
  obtain ⟨⟨oc, vs, t, hoc, hdc, hvc⟩, _, _⟩ := I1.hok c' _ hc
  have hr2 := hr.deeper (envOfC qg sg sB.heap.objs.size g cdg)
  have rc : codeAny (model X.prog X.w) ((X.A.deeper (envOfC q1 sc1 s.heap.objs.size g1 cd1)).deeper (envOfC qg sg sB.heap.objs.size g cdg)) (.call (.ref f) ⟨[], []⟩) (CR (L2.CX X.prog X.w) (envOfC qg sg sB.heap.objs.size g cdg :: envOfC q1 sc1 s.heap.objs.size g1 cd1 :: X.stack) X.prog X.w HZ s1 Q E) s1 := by
    refine PySem.W.kla_callFunE hr2.depth of1 rfl L.co L.gen rfl ⟨c', oc, vs, t, rfl, hoc, hdc, hvc⟩ ?_
    rw [hbind]
    refine wpAny_pure (wpAny_newFunctionEnv (fun y hy => (L.own y hy).2) (fun y hy => absurd hy (by simp)) (fun h₁ hns hsb => ⟨I1.nolimit.fresh _ hsb, ?_⟩) L.kind)
    show codeAny _ _ (.expr body (lamEnv X scope s1.heap.objs.size f c')) _ _
    have kp : ∀ b o, s1.heap.get? b = some o → h₁.get? b = some o := fun b o e => hsb.extBut b o (Nat.ne_of_lt (Heap.lt_size e)) (Heap.get?_push_of_some _ e)
    have J2 := lam_start2 (tk := s1.toks + ([] : List (Str × Value)).length) I L I1.env0 hr2.hd un hns kp (scope := scope) (f := f) (c' := c') (E := E)
    refine PySem.W.kla_codeExpr (wpAny_mono ((hbody _ _ s1 HZ (hr2.deeper _)).run [] _ _ HZ Q J2 ht) (fun v s' hq => ?_) fun e s' hq => hq)
    obtain ⟨w', H', J', rv, q⟩ := hq
    exact ⟨w', H', J'.os, J'.bare, J'.base, J'.hok, rv, q⟩
  have hx := passes_call tk hW
  refine wpAny_call (codeAny_mono rc fun r s' hq => ?_)
  cases r with
  | error e => exact hx pinsZ σZ HZ s1 e s' I1 hq
  | ok fl =>
    cases fl with
    | ret u => exact I1.after hq
    | next => exact False.elim hq
    | brk => exact False.elim hq
    | cont => exact False.elim hq
/-- the def that gets two things and one to call, which it hands on -/
def GivesTo2 (X : Cx) (k : Nat) (Ng : List Str) (x : Str) (sg : Scope) (g : Addr) (cdg : Value) (bg : List Stmt) (q : Str) (TT : List V → (XK → Hp → VK → Prop) → Hp → VK → Prop) : Prop :=
  ∀ (f c' : Addr) (s : Shared) (H : Hp) (Q : VK) (tl : XK → Hp → VK → Prop) (vs : List V), vs.length = 2 → Room k (X.A.deeper (envOfC x sg s.heap.objs.size g cdg)) → RunOk2 (gX X.prog X.w X.K X.mg X.base Ng x sg g cdg X.A X.stack s H).nox f c' q tl →
    H c' = some (CodeO c' q) → TT vs tl H Q →
    ∃ t, PSs (gX X.prog X.w X.K X.mg X.base Ng x sg g cdg X.A X.stack s H).nox bg t ∧ t { nx := fun _ H' => Q .non H', rt := Q } (L2.start Ng (vs ++ [.ref f])) H
/-- x(e1, e2, lambda: body) -/
theorem pe_lamcall2 {T : List (Addr × Str)} {TT : List V → (XK → Hp → VK → Prop) → Hp → VK → Prop} {x a1 a2 a : Str} {g c P : Addr} {k : Nat} {pg : Arguments} {bg : List Stmt} {sg : Scope} {dV kV doc pm cdv ct oc : Value} {an od : Option Addr} {osl : Array (Option Value)} {Ng : List Str}
    {params : Arguments} {body : Expr} {scope : Scope} {t : XK → TE} {e1 e2 : Expr} {t1 t2 : TE} {p lpos pos : Pos} (hg : Gl X x) (hm : X.mg x = some (.ref g)) (hk : PySem.W.keepIn X.K (.ref g) = true)
    (lk : X.K.lookup g = some ⟨oc, od, .func (PySem.W.fnOf x x pg bg sg dV kV doc pm an cdv ct), osl⟩) (hcg : PySem.W.codeIn X.K cdv x = true) (hb : L2.Binds X.K (PySem.W.fnOf x x pg bg sg dV kV doc pm an cdv ct) [a1, a2, a] []) (Sg : FnScope Ng [a1, a2, a] sg)
    (hG : GivesTo2 X (k + 2) Ng x sg g cdv bg (X.env.qual ++ "<lambda>") TT)
    (TB : TabB X.base X.mg c P) (hcode : X.env.code = .ref c) (hmT : (P, X.env.qual ++ "<lambda>") ∈ T) (hu : ∀ p ∈ T, p.1 = P → p.2 = X.env.qual ++ "<lambda>") (hr : Room (k + 3) X.A) (L : LamS X.env.scope scope) (hdef : defaultsOf params X.env = ([], []))
    (hbind : ∀ (q : Str) (cl : List (Str × Addr)) (pm cv ctv : Value), bindArgs (PySem.W.kla_fn "<lambda>" q params body scope cl pm cv ctv) ⟨[], []⟩ = pure [])
    (hbody : ∀ (A : Around) (outer : List Env) (s : Shared) (H : Hp) (E : XK) (f c' : Addr), Room k (A.deeper (lamEnv X scope s.heap.objs.size f c')) → PE (lamCx X A outer s H E scope f c') body (t E))
    (he1 : PE X e1 t1) (he2 : PE X e2 t2)
    (hs1 : starEach (e1 :: [e2, .Lambda params body scope lpos]) X.env = (false, eval e1 X.env) :: starEach [e2, .Lambda params body scope lpos] X.env) (hs2 : starEach (e2 :: [.Lambda params body scope lpos]) X.env = (false, eval e2 X.env) :: starEach [.Lambda params body scope lpos] X.env)
    (hpl : (backTo pos (starEach [e2, .Lambda params body scope lpos] X.env)).any (·.1) = false)
    (hdb : (x == ("__debug__" : Str)) = false := by decide) :
    PE X (.Call (.Name x p) [e1, e2, .Lambda params body scope lpos] [] pos) (fun σ H Q => t1 σ H fun v1 H1 => t2 σ H1 fun v2 H2 => Tabs T H2 ∧ ∀ H3, ExtN H2 H3 → Tabs T H3 → (∀ a ps, H3 a = some (.tbl ps) → ∃ ps', H2 a = some (.tbl ps')) → TT [v1, v2] (fun E H' Q' => t E σ H' Q') H3 Q) := by
  refine ⟨fun pins s σ H Q I h => ?_⟩
  refine wpAny_Call_Name_kw (ld_glob I hg hm ?_ hdb)
  refine PySem.W.callWith_K (h₀ := X.base) I.ok.mod.kin hk ?_ hs1 hpl
  rw [hs1]
  show wpAny _ _ (spliced ((false, eval e1 X.env) :: backTo pos (starEach [e2, .Lambda params body scope lpos] X.env))) _ _ s
  refine Calls.spliced_cons (thn (he1.run pins s σ H _ I h) fun u1 s1 ⟨x1, H1, I1, r1, h1⟩ => ?_)
  rw [hs2]
  show wpAny _ _ (spliced ((false, eval e2 X.env) :: backTo pos (starEach [.Lambda params body scope lpos] X.env))) _ _ s1
  refine Calls.spliced_cons (thn (he2.run pins s1 σ H1 _ I1 h1) fun u2 s2 ⟨x2, H2, I2, r2, hT, h⟩ => ?_)
  show wpAny _ _ (spliced ((false, eval (.Lambda params body scope lpos) X.env) :: backTo pos (starEach [] X.env))) _ _ s2
  refine Calls.spliced_cons (DLV.lam_make3 I2 TB hcode hmT hu hT hdef (L.has I2.ok) fun f c' pm' ctv H3 s' I3 eN T1 tb1 hf hfn hfr hco => ?_)
  refine Calls.spliced_nil ⟨I3.kIn, ?_⟩
  have rc : codeAny (model X.prog X.w) X.A (.call (.ref g) ⟨[u1, u2, .ref f], []⟩) (CR C8.CX0 X.stack X.prog X.w H3 s' Q C8.E0) s' := by
    refine run_ofS (N := Ng) (ps := [a1, a2, a]) (us := [u1, u2, .ref f]) (vs := [x1, x2, .ref f]) lk hcg Sg hr I3.env0 (hb s' [u1, u2, .ref f] I3.kIn rfl) (.cons r1 (.cons r2 (.cons rfl .nil))) rfl fun hr' => ?_
    obtain ⟨t', ht', hq'⟩ := hG f c' s' H3 Q (fun E H' Q' => t E σ H' Q') [x1, x2] rfl hr' (fun pB σB HB sB J Ng2 x' a' sg' g' cdg' hN' hv' hd' hcd' W pn xe E p1 p2 tk hW => pe_act2 I3 L hf hfn hfr (hbind _ _ _ _ _) J tk hW hr' (fun A outer s H hr2 => hbody A outer s H E f c' hr2) hN' hv' hd' hcd') hco (h H3 eN T1 tb1)
    exact ⟨t', ht'.nox, hq'⟩
  refine wpAny_call (codeAny_mono rc fun r s2 hq => ?_)
  cases r with
  | error e => exact (show False from hq).elim
  | ok fl =>
    cases fl with
    | ret u => exact I3.after hq
    | next => exact False.elim hq
    | brk => exact False.elim hq
    | cont => exact False.elim hq
end
section
variable {X : Cx}
/-- x(y): y is the thing to call -/
theorem pe_runcall {TT : (XK → Hp → VK → Prop) → Hp → VK → Prop} {x a y q : Str} {g f c' : Addr} {k i : Nat} {pg : Arguments} {bg : List Stmt} {sg : Scope} {dV kV doc pm cdv ct oc : Value} {an od : Option Addr} {osl : Array (Option Value)} {Ng : List Str} {tl : XK → Hp → VK → Prop}
    {p p1 pos : Pos} (hg : Gl X x) (hm : X.mg x = some (.ref g)) (hk : PySem.W.keepIn X.K (.ref g) = true)
    (lk : X.K.lookup g = some ⟨oc, od, .func (PySem.W.fnOf x x pg bg sg dV kV doc pm an cdv ct), osl⟩) (hcg : PySem.W.codeIn X.K cdv x = true) (hb : L2.Binds X.K (PySem.W.fnOf x x pg bg sg dV kV doc pm an cdv ct) [a] []) (Sg : FnScope Ng [a] sg) (hNg : Ng[0]? = some a) (hva : Vis sg a)
    (hG : GivesTo X Ng x sg g cdv bg a q TT) (hrun : RunOk2 X f c' q tl) (hr : Room (k + 1) X.A) (hy : X.N[i]? = some y) (hvy : Vis X.env.scope y)
    (hdb : (x == ("__debug__" : Str)) = false := by decide) (hd : (a == ("__debug__" : Str)) = false := by decide) (hcd : (a == ("__classdict__" : Str)) = false := by decide) (hd2 : (y == ("__debug__" : Str)) = false := by decide) (hcd2 : (y == ("__classdict__" : Str)) = false := by decide) :
    PE X (.Call (.Name x p) [.Name y p1] [] pos) (fun σ H Q => σ[i]? = some (some (.ref f)) ∧ H c' = some (CodeO c' q) ∧ TT tl H Q) := by
  refine ⟨fun pins s σ H Q I h => ?_⟩
  obtain ⟨h1, h2, h3⟩ := h
  refine wpAny_Call_Name_kw (ld_glob I hg hm ?_ hdb)
  refine PySem.W.callWith_K (h₀ := X.base) I.ok.mod.kin hk ?_ (by rfl) (by rfl)
  show wpAny _ _ (spliced ((false, eval (.Name y p1) X.env) :: backTo pos (starEach [] X.env))) _ _ s
  refine Calls.spliced_cons (thn ((pe_var (pos := p1) (i := i) hy hvy hd2 hcd2).run pins s σ H (fun v H1 => v = .ref f ∧ H1 = H) I ⟨.ref f, h1, rfl, rfl⟩) fun u s' ⟨v, H1, I1, r1, ev, eH⟩ => ?_)
  subst ev
  rw [eH] at I1
  obtain rfl : u = Value.ref f := r1
  refine Calls.spliced_nil ⟨I1.kIn, ?_⟩
  have rc : codeAny (model X.prog X.w) X.A (.call (.ref g) ⟨[.ref f], []⟩) (CR C8.CX0 X.stack X.prog X.w H s' Q C8.E0) s' := by
    refine run_ofS (N := Ng) (ps := [a]) (us := [.ref f]) (vs := [.ref f]) lk hcg Sg hr I1.env0 (hb s' [.ref f] I1.kIn rfl) (.cons rfl .nil) rfl fun hr' => ?_
    obtain ⟨t', ht', hq'⟩ := hG f c' s' H Q tl (hrun _ _ _ _ I1 Ng x a sg g cdv hNg hva hd hcd) h2 h3
    exact ⟨t', ht'.nox, hq'⟩
  refine wpAny_call (codeAny_mono rc fun r s2 hq => ?_)
  cases r with
  | error e => exact (show False from hq).elim
  | ok fl =>
    cases fl with
    | ret u => exact I1.after hq
    | next => exact False.elim hq
    | brk => exact False.elim hq
    | cont => exact False.elim hq
end
end DL

set_option Elab.async false
set_option linter.all false
set_option maxRecDepth 100000
set_option maxHeartbeats 4000000
/-! DM11: the same over data: x(e1, e2, lambda: body); x(y) in such a def. -/
namespace DL
open PySem PySem.Spec PyProof.Rows L2 Evl LamX
theorem evo_then {Z : Wd} {H0 B0 H B HZ BZ : Hp} {n : Nat} (a : Evo Z ⟨H0, B0, [], []⟩ H B) (str : StrOk Z n H) (b : Evo Z ⟨H, B, [], []⟩ HZ BZ) : Evo Z ⟨H0, B0, [], []⟩ HZ BZ := by
  refine ⟨fun c o h1 h2 h3 h4 h5 => b.ex c o (a.ex c o h1 h2 h3 h4 h5) h2 h3 h4 h5, fun c ps h1 => ?_, fun c o h1 => b.exB c o (a.exB c o h1), fun c h1 h2 => ?_, b.sub⟩
  · obtain ⟨ps', e⟩ := a.tb c ps h1
    exact b.tb c ps' e
  · refine .inl ?_
    cases hH : H0 c with
    | none => exact hH
    | some o =>
      exfalso
      have hHc : H c ≠ none := by
        by_cases e1 : c = Z.st
        · obtain ⟨_, _, _, _, e, _⟩ := str
          rw [e1, e]; simp
        by_cases e2 : c = Z.cs
        · obtain ⟨_, _, _, _, _, e, _⟩ := str
          rw [e2, e]; simp
        by_cases e3 : ∃ ps, o = .tbl ps
        · obtain ⟨ps, rfl⟩ := e3
          obtain ⟨ps', e⟩ := a.tb c ps hH
          rw [e]; simp
        · rw [a.ex c o hH (by simp) e1 e2 fun ps z => e3 ⟨ps, z⟩]; simp
      by_cases hB : B c = none
      · rcases b.new c hB h2 with z | z
        · exact hHc z
        · simp at z
      · rcases a.new c h1 hB with z | z
        · rw [show H0 c = none from z] at hH; cases hH
        · simp at z
abbrev GSpec2 := D → D → GSpec
def TT2of (Z : Wd) (sp : GSpec2) : List V → (XK → Hp → VK → Prop) → Hp → VK → Prop := fun vs tl H Q => ∃ n B KL XL KP d1 d2 v1 v2, vs = [v1, v2] ∧ Rp Z.K B d1 v1 ∧ Rp Z.K B d2 v2 ∧ Ready Z n [] [] H B [] ∧ LamD Z tl H B n KL XL ∧ sp d1 d2 n KL XL KP ∧ ∀ n' r v H2 B2 G2, KP n' r → CallEnd Z H B [] [] n' [] r v H2 B2 [] G2 → Q v H2
section
variable {P : Program} {w : World} {K : PySem.W.Frag} {mg : Str → Option Value} {base : Heap} {st cs : Addr} {T : List (Addr × Str)}
/-- the own def x of a1, a2 and a thing to call -/
structure OkL2 (P : Program) (w : World) (K : PySem.W.Frag) (mg : Str → Option Value) (base : Heap) (Z : Wd) (k : Nat) (x a1 a2 a : Str) (s : Stmt) (N : List Str) (sp : GSpec2) : Prop where
  df : Def1 K mg x s
  sc : FnScope N [a1, a2, a] (defScope s)
  bd : ∀ (kV doc pm : Value) (an : Option Addr) (cdv ct : Value) (us : List Value), us.length = 3 → bindArgs (PySem.W.fnOf x x (defArgs s) (defBody s) (defScope s) .none kV doc pm an cdv ct) ⟨us, []⟩ = pure ([a1, a2, a].zip us)
  gv : ∀ (X : Cx) (q : Str) (g : Addr) (cdg : Value), X.prog = P → X.w = w → X.K = K → X.mg = mg → X.base = base → GivesTo2 X k N x (defScope s) g cdg (defBody s) q (TT2of Z sp)
theorem okL2_of {x a1 a2 a : Str} {k : Nat} {s : Stmt} {N : List Str} {sp : GSpec2} (df : Def1 K mg x s) (sc : FnScope N [a1, a2, a] (defScope s))
    (hb : ∀ (g : Addr) (cdg : Value) (A : Around) (stack : List Env) (s' : Shared) (H B : Hp) (f c' : Addr) (q : Str) (tl : XK → Hp → VK → Prop) (d1 d2 : D) (n : Nat) KL XL KP, Room k (gX P w K mg base N x (defScope s) g cdg A stack s' H).A → RunOk2 (gX P w K mg base N x (defScope s) g cdg A stack s' H).nox f c' q tl → H c' = some (LamX.CodeO c' q) → c' ≠ st → c' ≠ cs →
      LamD ⟨K, st, cs, T⟩ tl H B n KL XL → sp d1 d2 n KL XL KP →
      HSs (gS P w K mg base st cs T N x (defScope s) g cdg A stack s' H B) (defBody s) n (some (.frz d1) :: some (.frz d2) :: some (.frz (.opq (.ref f))) :: List.replicate (N.length - 3) none) { nx := fun n' _ => KP n' (.frz .non), rt := fun n' _ r => KP n' r })
    (bd : ∀ (kV doc pm : Value) (an : Option Addr) (cdv ct : Value) (us : List Value), us.length = 3 → bindArgs (PySem.W.fnOf x x (defArgs s) (defBody s) (defScope s) .none kV doc pm an cdv ct) ⟨us, []⟩ = pure ([a1, a2, a].zip us)) :
    OkL2 P w K mg base ⟨K, st, cs, T⟩ k x a1 a2 a s N sp := by
  refine ⟨df, sc, bd, fun X q g cdg h1 h2 h3 h4 h5 => ?_⟩
  subst h1 h2 h3 h4 h5
  intro f c' s' H Q tl vs _ hroom hrun hcode ⟨n, B, KL, XL, KP, d1, d2, v1, v2, ev, r1, r2, rd, hlam, hsp, hq⟩
  subst ev
  have ne1 : c' ≠ st := fun z => by
    obtain ⟨_, _, _, _, e, _⟩ := rd.str
    have e : H st = _ := e
    rw [← z, hcode] at e
    cases e
  have ne2 : c' ≠ cs := fun z => by
    obtain ⟨_, _, _, _, _, e, _⟩ := rd.str
    have e : H cs = _ := e
    rw [← z, hcode] at e
    cases e
  have hbody := hb g cdg X.A X.stack s' H B f c' q tl d1 d2 n KL XL KP hroom hrun hcode ne1 ne2 hlam hsp
  have at0 : AtB ⟨X.K, st, cs, T⟩ ⟨H, B, [], []⟩ n (some (.frz d1) :: some (.frz d2) :: some (.frz (.opq (.ref f))) :: List.replicate (N.length - 3) none) [] (L2.start N [v1, v2, .ref f]) [] H B [] [] := by
    refine ⟨⟨fun _ _ e _ _ _ _ => e, fun a ps e => ⟨ps, e⟩, Ex.refl B, fun a h1 h2 => absurd h1 h2, rd.sub⟩, ?_, ⟨rfl, rfl⟩, fun a => by simp, fun a ha => by simp at ha, rd.str, rd.bst, rd.tab, True.intro⟩
    exact RpS.start (as := [.frz d1, .frz d2, .frz (.opq (.ref f))]) (vs := [v1, v2, .ref f]) (N.length - 3) (RpOs.frzs (ds := [d1, d2, .opq (.ref f)]) ⟨_, _, rfl, r1, _, _, rfl, r2, _, _, rfl, rfl, rfl⟩)
  have ed : ∀ {n' Γ' r σ v H2}, KP n' r → DL.At ⟨X.K, st, cs, T⟩ ⟨H, B, [], []⟩ n' Γ' [r] σ [v] H2 → Q v H2 := fun hk ⟨B2, F2, G2, a⟩ => by
    obtain ⟨G3, ce⟩ := evo_end (H0 := H) (B0 := B) rfl a
    exact hq _ _ _ _ _ _ hk ce
  exact ⟨_, pss_c, hbody [] (L2.start N [v1, v2, .ref f]) [] H _ ⟨B, [], [], at0⟩ ⟨fun n' Γ' σ H2 h a => ed h (a.flat fun _ => by exact rfl), fun n' Γ' r σ v H2 h a => ed h a, fun _ _ _ _ h => h.elim, fun _ _ _ _ h => h.elim⟩⟩
end
section
variable {S : Sit} {n : Nat} {Γ : Slots} {K : Nat → Slots → OT → Prop} {pos p lpos p1 : Pos}
/-- x(e1, e2, lambda: body): the body sees the frozen slots -/
theorem he_lam2 {x a1 a2 a : Str} {s : Stmt} {Ng : List Str} {sp : GSpec2} {c Pt : Addr} {k : Nat} {params : Arguments} {body : Expr} {scope : Scope} {e1 e2 : Expr} (O : OkL2 S.X.prog S.X.w S.X.K S.X.mg S.X.base S.Z (k + 2) x a1 a2 a s Ng sp) (TB : LamX.TabB S.X.base S.X.mg c Pt) (hcode : S.X.env.code = .ref c)
    (hmT : (Pt, S.X.env.qual ++ "<lambda>") ∈ S.T) (hu : ∀ p ∈ S.T, p.1 = Pt → p.2 = S.X.env.qual ++ "<lambda>") (hr : Room (k + 3) S.X.A) (L : LamX.LamS S.X.env.scope scope)
    (h : HE S e1 n Γ fun n1 Γ1 r1 => HE S e2 n1 Γ1 fun n2 Γ2 r2 => ∃ d1 d2 KL XL, r1 = .frz d1 ∧ r2 = .frz d2 ∧
      (∀ (A : Around) (outer : List Env) (s : Shared) (H0 : Hp) (E : XK) (f c' : Addr) (El : Ent) tk xo po, Room k (A.deeper (LamX.lamEnv S.X scope s.heap.objs.size f c')) → El.P = S.E.P →
        HE ⟨LamX.lamCx S.X A outer s H0 E scope f c', S.st, S.cs, S.T, El, fun cls d _ H => E cls d H, fun n _ C ns ds => XL n C ns ds, tk, xo, po⟩ body n2 (onlyF Γ2) fun n' _ r => KL n' r) ∧
      sp d1 d2 n2 KL XL fun n' r => K n' Γ2 r) (hg : Gl S.X x := by rfl)
    (hdef : defaultsOf params S.X.env = ([], []) := by rfl) (hbind : ∀ (q : Str) (cl : List (Str × Addr)) (pm cv ctv : Value), bindArgs (PySem.W.kla_fn "<lambda>" q params body scope cl pm cv ctv) ⟨[], []⟩ = pure [] := by exact fun _ _ _ _ _ => rfl)
    (hs1 : starEach (e1 :: [e2, .Lambda params body scope lpos]) S.X.env = (false, eval e1 S.X.env) :: starEach [e2, .Lambda params body scope lpos] S.X.env := by rfl) (hs2 : starEach (e2 :: [.Lambda params body scope lpos]) S.X.env = (false, eval e2 S.X.env) :: starEach [.Lambda params body scope lpos] S.X.env := by rfl)
    (hpl : (backTo pos (starEach [e2, .Lambda params body scope lpos] S.X.env)).any (·.1) = false := by rfl)
    (hdb : (x == ("__debug__" : Str)) = false := by decide) :
    HE S (.Call (.Name x p) [e1, e2, .Lambda params body scope lpos] [] pos) n Γ K := by
  obtain ⟨g, fd, hm, F⟩ := O.df
  have hk := F.kp
  have hb := F.bindsN (ps := [a1, a2, a]) (fun kV doc pm an cdv ct us hl => O.bd kV doc pm an cdv ct us hl)
  obtain ⟨oc, od, dV, kV, doc, pm, an, cdv, ct, osl, rfl, lk, hcg, _, _⟩ := F.ex
  intro Δ σ vs H Q at0 q
  refine ⟨_, pe_lamcall2 (k := k) (t := fun E σ H Q => ∀ (A : Around) (outer : List Env) (s : Shared) (H0 : Hp) (f c' : Addr), Room k (A.deeper (LamX.lamEnv S.X scope s.heap.objs.size f c')) → cE (LamX.lamCx S.X A outer s H0 E scope f c') body σ H Q)
    hg hm hk lk hcg hb O.sc (O.gv S.X _ g cdv rfl rfl rfl rfl rfl) TB hcode hmT hu hr L hdef hbind
    (fun A outer s H E f c' hr => ⟨fun pins s' σ H' Q I h => pe_c.run pins s' σ H' Q I (h A outer s H f c' hr)⟩) pe_c pe_c hs1 hs2 hpl hdb, ?_⟩
  refine h Δ σ vs H _ at0 fun n1 Γ1 r1 v1 H1 hk a1 => hk _ σ _ H1 _ a1 fun n2 Γ2 r2 v2 H2 ⟨d1, d2, KL, XL, e1, e2, hlam, hsp⟩ a2 => ?_
  subst e1 e2
  obtain ⟨B, F, G, h⟩ := a2
  obtain ⟨rp1, rp2⟩ := h.tm2
  obtain ⟨Ga, h⟩ := h.pop1
  obtain ⟨Gb, h⟩ := h.pop1
  refine ⟨h.tab.ts, fun H1 eN T1 tb1 => ?_⟩
  have h1 := h.extN eN T1 tb1
  obtain ⟨G1, c1, c2, c3⟩ := AtB.call (rs := []) (xs := []) h1 rfl
  have e1 : G1 = [] := c1.os.2
  subst e1
  refine ⟨n2, B, KL, XL, _, d1, d2, v1, v2, rfl, rp1, rp2, c1, fun HZ BZ E Q' ev str bst tab hK hX A outer s' H0 f c' hr' => ?_, hsp, fun n' r v H2 B2 G2 hk ce => q n' Γ2 r v H2 hk (c2 n' [] r v H2 B2 [] G2 ce)⟩
  have sl := RpS.mono ev.exB (fun a ha => by simp at ha) h1.sl.onlyF (H' := HZ)
  refine hlam A outer s' H0 E f c' ⟨HZ, BZ, [], S.E.P⟩ (takes_of rfl rfl rfl rfl) (fun n' Γ' C ns ds d σ' H2 B2 F2 a ed hx => hX n' C ns ds d H2 B2 hx ⟨⟨a.evo.ex, a.evo.tb, a.evo.exB, a.evo.new, a.evo.sub⟩, ed, a.str, a.bst, a.tab⟩) (passes_of rfl) hr' rfl [] σ [] HZ Q'
    ⟨BZ, [], [], ⟨fun _ _ e _ _ _ _ => e, fun a ps e => ⟨ps, e⟩, Ex.refl _, fun a h1 h2 => absurd h1 h2, ev.sub⟩, sl, ⟨rfl, rfl⟩, fun a => by simp, fun a ha => by simp at ha, str, bst, tab, h1.pin⟩ fun n' Γ' r v H2 hk ⟨B2, F2, G2, a⟩ => ?_
  obtain ⟨G3, ce⟩ := evo_end (H0 := HZ) (B0 := BZ) rfl a
  exact hK n' r v H2 B2 G3 hk ce
/-- x(y): y is the thing to call -/
theorem he_runcall {x a y q : Str} {s : Stmt} {Ng : List Str} {sp : GSpec} {k i : Nat} {f c' : Addr} {tl : XK → Hp → VK → Prop} {H0 B0 : Hp} {KL : Nat → OT → Prop} {XL : Nat → Addr → List Str → List D → Prop} (O : OkL S.X.prog S.X.w S.X.K S.X.mg S.X.base S.Z x a s Ng sp) (hrun : RunOk2 S.X f c' q tl) (hr : Room (k + 1) S.X.A)
    (hc : H0 c' = some (LamX.CodeO c' q)) (ne1 : c' ≠ S.st) (ne2 : c' ≠ S.cs) (hlam : LamD S.Z tl H0 B0 n KL XL) (hE : S.E = ⟨H0, B0, [], []⟩) (hN : S.X.N[i]? = some y) (hv : Vis S.X.env.scope y) (hΓ : Γ[i]? = some (some (.frz (.opq (.ref f)))))
    (hsp : sp n KL XL fun n' r => K n' Γ r) (hg : Gl S.X x := by rfl)
    (hdb : (x == ("__debug__" : Str)) = false := by decide) (hd : (a == ("__debug__" : Str)) = false := by decide) (hcd : (a == ("__classdict__" : Str)) = false := by decide) (hd2 : (y == ("__debug__" : Str)) = false := by decide) (hcd2 : (y == ("__classdict__" : Str)) = false := by decide) :
    HE S (.Call (.Name x p) [.Name y p1] [] pos) n Γ K := by
  obtain ⟨g, fd, hm, F⟩ := O.df
  have hk := F.kp
  have hb := F.bindsN (ps := [a]) (fun kV doc pm an cdv ct us hl => O.bd kV doc pm an cdv ct us hl)
  obtain ⟨oc, od, dV, kV, doc, pm, an, cdv, ct, osl, rfl, lk, hcg, _, _⟩ := F.ex
  intro Δ σ vs H Q ⟨B, F, G, h⟩ qq
  have ev0 : Evo S.Z ⟨H0, B0, [], []⟩ H B := by
    have := h.evo
    rwa [hE] at this
  obtain ⟨v0, h1, h2⟩ := h.sl.frz hΓ
  have h2 : v0 = .ref f := h2
  subst h2
  obtain ⟨G1, c1, c2, c3⟩ := AtB.call (rs := []) (xs := []) h rfl
  have e1 : G1 = [] := c1.os.2
  subst e1
  refine ⟨_, pe_runcall (f := f) (c' := c') (tl := tl) hg hm hk lk hcg hb O.sc O.n0 O.vs (O.gv S.X q g cdv rfl rfl rfl rfl rfl) hrun hr hN hv hdb hd hcd hd2 hcd2, h1, ev0.ex c' _ hc (fun z => by cases z) ne1 ne2 (fun ps z => by cases z), ?_⟩
  exact ⟨n, B, KL, XL, _, c1, fun HZ BZ E Q' ev str bst tab hK hX => hlam HZ BZ E Q' (evo_then ev0 h.str ev) str bst tab hK hX, hsp, fun n' r v H2 B2 G2 hk ce => qq n' Γ r v H2 hk (c2 n' [] r v H2 B2 [] G2 ce)⟩
end
end DL

set_option Elab.async false
set_option linter.all false
set_option maxRecDepth 100000
set_option maxHeartbeats 4000000
namespace K03
open PySem PySem.Spec PyProof.Rows L2 DL Evl
/-- where the spring stands, behind H0 -/
structure Spr (st cs : Addr) (H0 : Hp) (a b c : Int) (ns : List Int) (H : Hp) : Prop where
  hst : H st = some (.lst [.ref cs, .int a, .int b, .int c])
  hcs : H cs = some (.lst (ns.map V.int))
  old : ∀ x o, H0 x = some o → x ≠ st → x ≠ cs → H x = some o
  tb : ∀ x ps, H x = some (.tbl ps) → H0 x = some (.tbl ps)
section
variable {st cs : Addr} {H0 H : Hp} {a b c a' b' c' : Int} {ns ns' : List Int}
theorem Spr.set (s : Spr st cs H0 a b c ns H) (hn : st ≠ cs) : Spr st cs H0 a' b' c' ns (upd H st (.lst [.ref cs, .int a', .int b', .int c'])) :=
  ⟨upd_same, by rw [upd_ne (Ne.symm hn)]; exact s.hcs, fun x o e h1 h2 => by rw [upd_ne h1]; exact s.old x o e h1 h2, fun x ps e => s.tb x ps (tb_new (fun _ z => by cases z) x ps e)⟩
theorem Spr.pop (s : Spr st cs H0 a b c ns H) (hn : st ≠ cs) : Spr st cs H0 a b c ns' (upd H cs (.lst (ns'.map V.int))) :=
  ⟨by rw [upd_ne hn]; exact s.hst, upd_same, fun x o e h1 h2 => by rw [upd_ne h2]; exact s.old x o e h1 h2, fun x ps e => s.tb x ps (tb_new (fun _ z => by cases z) x ps e)⟩
theorem Spr.new (s : Spr st cs H0 a b c ns H) {p : Addr} {o : HO} (hp : H p = none) (ho : ∀ ps, o ≠ .tbl ps) : Spr st cs H0 a b c ns (upd H p o) :=
  ⟨Ex.new hp _ _ s.hst, Ex.new hp _ _ s.hcs, fun x u e h1 h2 => Ex.new hp _ _ (s.old x u e h1 h2), fun x ps e => s.tb x ps (tb_new ho x ps e)⟩
theorem lay_ints : ∀ ns : List Int, PyData.canLayAll0 (ns.map PyData.int) = true
  | [] => rfl
  | n :: ns => by
    show (PyData.canLay0 (.int n) && PyData.canLayAll0 (ns.map PyData.int)) = true
    rw [lay_ints ns]; rfl
theorem dep_ints : ∀ ns : List Int, PyData.depthAll (ns.map PyData.int) = 0
  | [] => rfl
  | n :: ns => by
    show max (PyData.depth (.int n)) (PyData.depthAll (ns.map PyData.int)) = 0
    rw [dep_ints ns]; rfl
theorem sh_ints (ns : List Int) : SeqAt.shaped (.list (ns.map PyData.int)) = true := by
  show (PyData.canLayAll0 (ns.map PyData.int) && decide (PyData.depthAll (ns.map PyData.int) + 1 ≤ 64)) = true
  rw [lay_ints, dep_ints]; rfl
theorem dp_ints {K : PySem.W.Frag} {H : Hp} : ∀ ns : List Int, DpAll K H (ns.map V.int) (ns.map PyData.int)
  | [] => .nil
  | n :: ns => .cons (.int n) (dp_ints ns)
theorem eqv_nil (ns : List Int) : PyData.eqv (.list (ns.map PyData.int)) (.list []) = ns.isEmpty := by
  cases ns <;> rfl
end
section
variable {P : Program} {w : World} {K : PySem.W.Frag} {mg : Str → Option Value} {base : Heap} {st cs : Addr} {T : List (Addr × Str)}
def sp_below (st : Addr) : PSpec := fun ds n KP _ => ∃ m : Int, ds = [.opq (.ref st), .int m] ∧ 1 ≤ m ∧ m ≤ 1048576 ∧ 1 ≤ n ∧ ∀ r : Int, 0 ≤ r → r < m → KP (n - 1) (.frz (.int r))
abbrev Nb : List Str := ["stream", "many", "cell", "digit", "mixed"]
theorem sc_below : FnScope Nb ["stream", "many"] (defScope (top 37)) := ⟨rfl, rfl, rfl, by decide +kernel, rfl, by decide +kernel, by decide +kernel⟩
theorem ok_below (k : Nat) (d : Def1 K mg "_law_below" (top 37)) (m1 : mg "int" = none) : OkF P w K mg base ⟨K, st, cs, T⟩ (k + 1) "_law_below" ["stream", "many"] (pureSp (sp_below st)) := by
  obtain ⟨f, fd, h1, h2⟩ := d
  refine ⟨f, fd, h1, h2.kp, h2.bindsN (fun _ _ _ _ _ _ us hl => match us, hl with | [_, _], _ => rfl), h2.ok sc_below (fun vs H Q E h => ?_) (fun cdv A outer s H vs Q E hr h => ?_)⟩
  · obtain ⟨n, as, B, F, KP, XP, hl, rd, _⟩ := h
    rw [rd.os.len, hl]
  obtain ⟨n, as, B, F, KP, XP, hl, rd, ⟨ds, rfl, m, rfl, hm1, hm2, hn, hk⟩, hq, _⟩ := h
  obtain ⟨rfl, y1, y2, rfl, e1, z1, z2, rfl, e2, e3⟩ : F = [] ∧ ∃ y1 y2, vs = y1 :: y2 ∧ y1 = .ref st ∧ ∃ z1 z2, y2 = z1 :: z2 ∧ z1 = .int m ∧ z2 = [] := by
    obtain ⟨g0, r1, r2, q1, q2, r3, r4, q3, q4, q5⟩ := RpOs.frzs_inv rd.os
    exact ⟨g0, r1, r2, q1, q2, r3, r4, q3, q4, q5⟩
  subst e1 e2 e3
  obtain ⟨ns, a, b, c, i1, i2, hne, i4, ha, hb0, hb, hc0, hc⟩ := rd.str
  have hne : st ≠ cs := hne
  have i1 : H st = some (.lst [.ref cs, .int a, .int b, .int c]) := i1
  have i2 : H cs = some (.lst (ns.map V.int)) := i2
  have s0 : Spr st cs H a b c ns H := ⟨i1, i2, fun _ _ e _ _ => e, fun _ _ e => e⟩
  have hb : b + (n : Int) ≤ 1099511627776 := hb
  -- the end
  have fin : ∀ {a' b' c' : Int} {ns' : List Int} {H2 : Hp} {r : Int}, Spr st cs H a' b' c' ns' H2 → ns'.length ≤ 63 → 0 ≤ a' → b' = b + 1 → 0 ≤ c' → c' < 2147483647 → 0 ≤ r → r < m → Q (.int r) H2 := by
    intro a' b' c' ns' H2 r s hn' ha' hb' hc0' hc' hr0 hr
    subst hb'
    refine hq (n - 1) _ _ (.int r) H2 B [] [] (hk r hr0 hr) ⟨⟨fun x o e _ h3 h4 h5 => s.old x o e h3 h4, fun x ps e => ⟨ps, ?_⟩, Ex.refl B, fun x h3 h4 => absurd h3 h4, fun x o e => ?_⟩, ?_, ⟨rfl, rfl⟩, fun x => by simp, fun x hx => by simp at hx, ⟨ns', a', b + 1, c', s.hst, s.hcs, hne, hn', ha', by omega, by omega, hc0', hc'⟩, rd.bst, ?_⟩
    · have e : H x = some (.tbl ps) := e
      refine s.old x _ e (fun z => ?_) (fun z => ?_)
      · rw [z, i1] at e; cases e
      · rw [z, i2] at e; cases e
    · refine s.old x o (rd.sub x o e) (fun z => ?_) (fun z => ?_)
      · have := rd.bst.st
        rw [z] at e
        have e : B st = some o := e
        have this : B st = none := this
        rw [this] at e; cases e
      · have := rd.bst.cs
        rw [z] at e
        have e : B cs = some o := e
        have this : B cs = none := this
        rw [this] at e; cases e
    · exact ⟨.ref st, [.int m], [], [], rfl, rfl, ⟨rfl, rfl⟩, .int m, [], [], [], rfl, rfl, ⟨rfl, rfl⟩, rfl, rfl⟩
    · refine ⟨fun p hp => ?_, fun x ps e => rd.tab.all x ps (s.tb x ps e)⟩
      obtain ⟨ps, q1, q2, q3⟩ := rd.tab.ts p hp
      refine ⟨ps, s.old _ _ q1 (fun z => ?_) (fun z => ?_), q2, fun pos cv hcv => ?_⟩
      · rw [z, i1] at q1; cases q1
      · rw [z, i2] at q1; cases q1
      · obtain ⟨cc, q4, q5⟩ := q3 pos cv hcv
        refine ⟨cc, q4, s.old _ _ q5 (fun z => ?_) (fun z => ?_)⟩
        · rw [z, i1] at q5; cases q5
        · rw [z, i2] at q5; cases q5
  refine ⟨_, pss_cons (ps_asg (pe_op op_add (pe_ix ix_list (pe_var (i := 0) rfl (.inl rfl)) pe_int (fun _ _ => rfl)) pe_int) (pg_sub (pe_var (i := 0) rfl (.inl rfl)) pe_int set_list (fun _ => rfl))) pss_c, ?_⟩
  refine ⟨_, rfl, st, _, 2, .int b, rfl, rfl, .of i1, rfl, b, 1, rfl, rfl, _, rfl, st, _, 2, 2, rfl, rfl, i1, rfl, ?_⟩
  have rest : ∀ {a c : Int} {ns : List Int} {x y z : Option V} {H' : Hp}, Spr st cs H a (b + 1) c ns H' → ns.length ≤ 63 → 0 ≤ a → 0 ≤ c → c < 2147483647 →
      cSs (cxOf (L2.CX P w) P w K mg base Nb "_law_below" (defScope (top 37)) f cdv A outer s H E) ((defBody (top 37)).drop 2) { nx := fun _ H' => Q .non H', rt := Q } [some (.ref st), some (.int m), x, y, z] H' := by
    intro a c ns x y z H' s1 i4 ha hc0 hc
    refine ⟨_, pss_cons (ps_if (pt_cmpR op_gt (pe_ix ix_list (pe_var (i := 0) rfl (.inl rfl)) pe_int (fun _ _ => rfl)) pe_int (nomark _))
      (pss_cons (ps_set (i := 3) sc_below.nd rfl (.inl rfl) (pe_op op_mod (pe_callTy call_int1 rfl m1 b_int (pa_cons (pe_ix ix_list (pe_var (i := 0) rfl (.inl rfl)) pe_int (fun _ _ => rfl)) pa_nil)) (pe_var (i := 1) rfl (.inl rfl))))
        (pss_cons (ps_asg (pe_op op_fdiv (pe_ix ix_list (pe_var (i := 0) rfl (.inl rfl)) pe_int (fun _ _ => rfl)) (pe_var (i := 1) rfl (.inl rfl))) (pg_sub (pe_var (i := 0) rfl (.inl rfl)) pe_int set_list (fun _ => rfl))) (pss_one (ps_ret (pe_var (i := 3) rfl (.inl rfl))))))
      pss_nil) pss_c, ?_⟩
    refine ⟨_, rfl, st, _, 1, .int a, rfl, rfl, .of s1.hst, rfl, a, 0, rfl, rfl, _, rfl, iteP ⟨fun h1 => ?_, fun h1 => ?_⟩⟩
    · refine ⟨_, rfl, st, _, 1, .int a, rfl, rfl, .of s1.hst, rfl, .inl ⟨a, rfl, _, rfl, a, m, rfl, rfl, show 0 < m by omega, ?_⟩⟩
      refine ⟨_, rfl, st, _, 1, .int a, rfl, rfl, .of s1.hst, rfl, _, rfl, a, m, rfl, rfl, ⟨by omega, by omega⟩, _, rfl, st, _, 1, 1, rfl, rfl, s1.hst, rfl, ?_⟩
      exact ⟨_, rfl, fin (s1.set (a' := a / m) (b' := b + 1) (c' := c) hne) i4 (Int.ediv_nonneg ha (by omega)) rfl hc0 hc (Int.emod_nonneg _ (by omega)) (Int.emod_lt_of_pos _ (by omega))⟩
    · refine ⟨_, pss_cons (ps_set (i := 4) sc_below.nd rfl (.inl rfl) (pe_op op_mod (pe_callTy call_int1 rfl m1 b_int (pa_cons (pe_op op_pow (pe_op op_add (pe_op op_add (pe_ix ix_list (pe_var (i := 0) rfl (.inl rfl)) pe_int (fun _ _ => rfl)) (pe_op op_mul pe_int (pe_ix ix_list (pe_var (i := 0) rfl (.inl rfl)) pe_int (fun _ _ => rfl)))) pe_int) pe_int) pa_nil)) pe_int))
        (pss_one (ps_ret (pe_op op_mod (pe_op op_mod (pe_callTy call_int1 rfl m1 b_int (pa_cons (pe_op op_pow (pe_op op_add (pe_op op_add (pe_op op_mul (pe_var (i := 4) rfl (.inl rfl)) pe_int) (pe_op op_mul pe_int (pe_ix ix_list (pe_var (i := 0) rfl (.inl rfl)) pe_int (fun _ _ => rfl)))) pe_int) pe_int) pa_nil)) pe_int) (pe_var (i := 1) rfl (.inl rfl))))), ?_⟩
      refine ⟨_, rfl, st, _, 3, .int c, rfl, rfl, .of s1.hst, rfl, _, rfl, st, _, 2, .int (b + 1), rfl, rfl, .of s1.hst, rfl, 9049, b + 1, rfl, rfl, .inl (by decide), c, _, rfl, rfl, _, 130073, rfl, rfl, _, 5, rfl, rfl, ⟨by decide, by decide, ?_⟩, .inl ⟨_, rfl, _, 2147483629, rfl, rfl, show (0 : Int) < 2147483629 by decide, ?_⟩⟩
      · refine Int.ofNat_lt.mp ?_
        rw [Int.natAbs_of_nonneg (by omega)]
        show _ < ((18446744073709551616 : Nat) : Int)
        omega
      · have mx1 : 0 ≤ (c + 9049 * (b + 1) + 130073) ^ (5 : Int).toNat % 2147483629 := Int.emod_nonneg _ (by decide)
        have mx2 : (c + 9049 * (b + 1) + 130073) ^ (5 : Int).toNat % 2147483629 < 2147483629 := Int.emod_lt_of_pos _ (by decide)
        refine ⟨_, rfl, _, 44089, rfl, rfl, .inr (by decide), _, rfl, st, _, 2, .int (b + 1), rfl, rfl, .of s1.hst, rfl, 60077, b + 1, rfl, rfl, .inl (by decide), _, _, rfl, rfl, _, 47, rfl, rfl, _, 3, rfl, rfl, ⟨by decide, by decide, ?_⟩, .inl ⟨_, rfl, _, 1000000007, rfl, rfl, show (0 : Int) < 1000000007 by decide, _, rfl, _, m, rfl, rfl, show 0 < m by omega, ?_⟩⟩
        · refine Int.ofNat_lt.mp ?_
          generalize (c + 9049 * (b + 1) + 130073) ^ (5 : Int).toNat % 2147483629 = mx at mx1 mx2 ⊢
          rw [Int.natAbs_of_nonneg (by omega)]
          show _ < ((18446744073709551616 : Nat) : Int)
          omega
        · exact fin s1 i4 ha rfl hc0 hc (Int.emod_nonneg _ (by omega)) (Int.emod_lt_of_pos _ (by omega))
  have s1 : Spr st cs H a (b + 1) c ns _ := s0.set (a' := a) (b' := b + 1) (c' := c) hne
  refine ⟨_, pss_cons (ps_while (passes_of rfl) (PW.pt (pw_and (pt_cmpR op_eq (pe_ix ix_list (pe_var (i := 0) rfl (.inl rfl)) pe_int (fun _ _ => rfl)) pe_int (nomark _)) (pw_and1 (pt_cmpR (op_neD hr.units) (pe_ix ix_list (pe_var (i := 0) rfl (.inl rfl)) pe_int (fun _ _ => rfl)) (pe_lst pa_nil) (nomark _)))))
    (pss_cons (ps_set (i := 2) sc_below.nd rfl (.inl rfl) (pe_bm PySem.F.plainAttrs_list PySem.F.slot_list_pop PySem.F.type_list_pop mt_popAt (pe_ix ix_list (pe_var (i := 0) rfl (.inl rfl)) pe_int (fun _ _ => rfl)) (pa_cons pe_int pa_nil)))
      (pss_cons (ps_asg (pe_op op_mod (pe_callTy call_int1 rfl m1 b_int (pa_cons (pe_op op_add (pe_op op_add (pe_op op_mul (pe_ix ix_list (pe_var (i := 0) rfl (.inl rfl)) pe_int (fun _ _ => rfl)) pe_int) (pe_var (i := 2) rfl (.inl rfl))) pe_int) pa_nil)) pe_int) (pg_sub (pe_var (i := 0) rfl (.inl rfl)) pe_int set_list (fun _ => rfl)))
        (pss_one (ps_asg (pe_ifExp (pt_cmpR op_ge (pe_var (i := 2) rfl (.inl rfl)) (pe_op op_pow pe_int pe_int) (nomark _)) (pe_var (i := 2) rfl (.inl rfl)) pe_int) (pg_sub (pe_var (i := 0) rfl (.inl rfl)) pe_int set_list (fun _ => rfl))))))) pss_c, ?_⟩
  refine ⟨fun j σ H' => ∃ a c ns x y z, σ = [some (.ref st), some (.int m), x, y, z] ∧ Spr st cs H a (b + 1) c ns H' ∧ ns.length = j ∧ ns.length ≤ 63 ∧ 0 ≤ a ∧ 0 ≤ c ∧ c < 2147483647, ⟨ns.length, a, c, ns, none, none, none, rfl, s1, rfl, i4, ha, hc0, hc⟩, ?_⟩
  rintro j σ H1 ⟨a, c, ns, x, y, z, rfl, s1, rfl, i4, ha, hc0, hc⟩
  refine ⟨_, rfl, st, _, 1, .int a, rfl, rfl, .of s1.hst, rfl, rfl, _, rfl, iteP ⟨fun h1 => ?_, fun h1 => ?_⟩⟩
  · -- stream[1] == 0
    refine ⟨_, rfl, st, _, 0, .ref cs, rfl, rfl, .of s1.hst, rfl, by decide, fun p hp => ?_⟩
    have s2 : Spr st cs H a (b + 1) c ns (upd H1 p (.lst [])) := s1.new hp (fun _ z => by cases z)
    refine ⟨.list (ns.map .int), .list [], .lst (.of s2.hcs) (dp_ints ns), .lst (.of upd_same) .nil, sh_ints ns, rfl, _, rfl, iteP ⟨fun h2 => ?_, fun h2 => ?_⟩⟩
    · rw [eqv_nil] at h2
      obtain ⟨n0, ns', rfl⟩ : ∃ n0 ns', ns = n0 :: ns' := by
        cases ns with
        | nil => cases h2
        | cons n0 ns' => exact ⟨n0, ns', rfl⟩
      refine ⟨fun σ H' => ∃ a c x y z, σ = [some (.ref st), some (.int m), x, y, z] ∧ Spr st cs H a (b + 1) c ns' H' ∧ 0 ≤ a ∧ 0 ≤ c ∧ c < 2147483647, fun σ' H' ⟨a, c, x, y, z, q1, q2, q3, q4, q5⟩ => ⟨ns'.length, by simp, a, c, ns', x, y, z, q1, q2, rfl, by simp at i4; omega, q3, q4, q5⟩, ?_⟩
      -- cell = stream[0].pop(0)
      refine ⟨_, rfl, st, _, 0, .ref cs, rfl, rfl, .of s2.hst, rfl, .inl ⟨rfl, _, .of s2.hcs⟩, cs, _, 0, 0, .int n0, rfl, rfl, s2.hcs, by decide, by decide, ?_, rfl, ?_⟩
      · show seqIndex? 0 (List.map V.int (n0 :: ns')).length = some 0
        unfold seqIndex?
        rw [if_neg (show ¬ ((0 : Int) < 0) by decide)]
        show (if (decide ((0 : Int) ≤ 0) && decide ((0 : Int) < ((List.map V.int (n0 :: ns')).length : Int))) = true then some (0 : Int).toNat else none) = some 0
        rw [decide_eq_true (by decide), decide_eq_true (by rw [List.length_map, List.length_cons]; omega)]
        rfl
      have s3 : Spr st cs H a (b + 1) c ns' _ := s2.pop (ns' := ns') hne
      -- stream[3] = ..
      refine ⟨_, rfl, st, _, 3, .int c, rfl, rfl, .of s3.hst, rfl, c, 69031, rfl, rfl, .inr (by decide), _, rfl, _, n0, rfl, rfl, _, 13, rfl, rfl, .inl ⟨_, rfl, _, 2147483647, rfl, rfl, show (0 : Int) < 2147483647 by decide, _, rfl, st, _, 3, 3, rfl, rfl, s3.hst, rfl, ?_⟩⟩
      have s4 : Spr st cs H a (b + 1) ((c * 69031 + n0 + 13) % 2147483647) ns' _ := s3.set (a' := a) (b' := b + 1) (c' := (c * 69031 + n0 + 13) % 2147483647) hne
      have hc1 : 0 ≤ (c * 69031 + n0 + 13) % 2147483647 := Int.emod_nonneg _ (by decide)
      have hc2 : (c * 69031 + n0 + 13) % 2147483647 < 2147483647 := Int.emod_lt_of_pos _ (by decide)
      -- stream[1] = ..
      refine ⟨_, rfl, 10, 18, rfl, rfl, ⟨by decide, by decide, by decide⟩, n0, _, rfl, rfl, _, rfl, iteP ⟨fun h3 => ?_, fun h3 => ?_⟩⟩
      · have h3 : (10 : Int) ^ 18 ≤ n0 := of_decide_eq_true h3
        refine ⟨_, rfl, _, rfl, st, _, 1, 1, rfl, rfl, s4.hst, rfl, n0, _, some (.int n0), y, z, rfl, s4.set (a' := n0) (b' := b + 1) (c' := (c * 69031 + n0 + 13) % 2147483647) hne, by omega, hc1, hc2⟩
      · refine ⟨_, rfl, st, _, 1, 1, rfl, rfl, s4.hst, rfl, 0, _, some (.int n0), y, z, rfl, s4.set (a' := 0) (b' := b + 1) (c' := (c * 69031 + n0 + 13) % 2147483647) hne, by omega, hc1, hc2⟩
    · exact rest s2 i4 ha hc0 hc
  · exact rest s1 i4 ha hc0 hc
end
end K03

set_option Elab.async false
set_option linter.all false
set_option maxRecDepth 100000
set_option maxHeartbeats 4000000
namespace K03
open PySem PySem.Spec PyProof.Rows L2 DL Evl
theorem perm_erase {α : Type} : ∀ (l : List α) (j : Nat) (h : j < l.length), (l[j] :: l.eraseIdx j).Perm l
  | x :: xs, 0, _ => List.Perm.refl _
  | x :: xs, j + 1, h => (List.Perm.swap x _ _).trans ((perm_erase xs j (by simpa using h)).cons x)
section
variable {P : Program} {w : World} {K : PySem.W.Frag} {mg : Str → Option Value} {base : Heap} {st cs : Addr} {T : List (Addr × Str)}
def sp_chance (st : Addr) : PSpec := fun ds n KP _ => ∃ m : Int, ds = [.opq (.ref st), .int m] ∧ 1 ≤ m ∧ m ≤ 1048576 ∧ 1 ≤ n ∧ ∀ b : Bool, KP (n - 1) (.frz (.bl b))
theorem sc_chance : FnScope ["stream", "many"] ["stream", "many"] (defScope (top 38)) := ⟨rfl, rfl, rfl, by decide +kernel, rfl, by decide +kernel, by decide +kernel⟩
theorem ok_chance (k : Nat) (d : Def1 K mg "_law_chance" (top 38)) (O : OkF P w K mg base ⟨K, st, cs, T⟩ k "_law_below" ["stream", "many"] (pureSp (sp_below st))) :
    OkF P w K mg base ⟨K, st, cs, T⟩ (k + 1) "_law_chance" ["stream", "many"] (pureSp (sp_chance st)) := by
  refine fn_pure d sc_chance (fun f ds b n KP XP0 hr hl ⟨m, e, h1, h2, h3, hk⟩ hx => ?_) fun _ _ _ _ _ _ us hl => match us, hl with | [_, _], _ => rfl
  subst e
  exact hss_one (hs_ret (he_cmp (he_callP O hr (ha_cons (he_var 0 rfl (.inl rfl) rfl (ha_cons (he_var 1 rfl (.inl rfl) rfl (ha_nil ⟨rfl, m, rfl, h1, h2, h3, fun r _ _ => he_int (o_eqI (hk _))⟩))))))))
def sp_pick (st : Addr) : PSpec := fun ds n KP _ => ∃ xs, ds = [.opq (.ref st), .lst xs] ∧ 1 ≤ xs.length ∧ xs.length ≤ 1048576 ∧ 1 ≤ n ∧ ∀ x ∈ xs, KP (n - 1) (.frz x)
theorem sc_pick : FnScope ["stream", "some"] ["stream", "some"] (defScope (top 39)) := ⟨rfl, rfl, rfl, by decide +kernel, rfl, by decide +kernel, by decide +kernel⟩
theorem ok_pick (k : Nat) (d : Def1 K mg "_law_pick" (top 39)) (O : OkF P w K mg base ⟨K, st, cs, T⟩ k "_law_below" ["stream", "many"] (pureSp (sp_below st))) (m1 : mg "len" = none) :
    OkF P w K mg base ⟨K, st, cs, T⟩ (k + 1) "_law_pick" ["stream", "some"] (pureSp (sp_pick st)) := by
  refine fn_pure d sc_pick (fun f ds b n KP XP0 hr hl ⟨xs, e, h1, h2, h3, hk⟩ hx => ?_) fun _ _ _ _ _ _ us hl => match us, hl with | [_, _], _ => rfl
  subst e
  refine hss_one (hs_ret (he_ix (he_var 1 rfl (.inl rfl) rfl ?_)))
  refine he_callP O hr (ha_cons (he_var 0 rfl (.inl rfl) rfl (ha_cons (he_fun b_len m1 (ha_cons (he_var 1 rfl (.inl rfl) rfl (ha_nil ?_)))))))
  refine hf_lenL (ha_nil ⟨rfl, (xs.length : Int), rfl, by omega, by omega, h3, fun r q1 q2 => ?_⟩)
  obtain ⟨j, rfl⟩ := Int.eq_ofNat_of_zero_le q1
  have hj : j < xs.length := by omega
  exact o_ixL (atI_nat (List.getElem?_eq_getElem hj)) (hk _ (List.getElem_mem hj))
def sp_mixed (st : Addr) : PSpec := fun ds n KP _ => ∃ xs, ds = [.opq (.ref st), .lst xs] ∧ xs.length ≤ 100000 ∧ xs.length ≤ n ∧ ∀ ys : List D, ys.Perm xs → KP (n - xs.length) (.ol (ys.map .frz))
theorem sc_mixed : FnScope ["stream", "some", "left", "k"] ["stream", "some"] (defScope (top 40)) := ⟨rfl, rfl, rfl, by decide +kernel, rfl, by decide +kernel, by decide +kernel⟩
theorem ok_mixed (k : Nat) (d : Def1 K mg "_law_mixed" (top 40)) (O : OkF P w K mg base ⟨K, st, cs, T⟩ k "_law_below" ["stream", "many"] (pureSp (sp_below st))) (m1 : mg "len" = none) (m2 : mg "list" = none) (m3 : mg "range" = none) :
    OkF P w K mg base ⟨K, st, cs, T⟩ (k + 1) "_law_mixed" ["stream", "some"] (pureSp (sp_mixed st)) := by
  refine fn_pure d sc_mixed (fun f ds b n KP XP0 hr hl ⟨xs, e, h1, h2, hk⟩ hx => ?_) fun _ _ _ _ _ _ us hl => match us, hl with | [_, _], _ => rfl
  subst e
  refine hss_cons (hs_set 2 (he_type b_list m2 (ha_cons (he_var 1 rfl (.inl rfl) rfl (ha_nil (hf_listL ⟨by show (2 : Nat) < 4; decide, rfl, ?_⟩))))) sc_mixed.nd rfl (.inr rfl))
  refine hss_one (hs_ret (he_lc0 [("k", 3)] (gName 3) (hi_range1 m3 (ha_cons (he_bor fun E' xo' hP => he_fun b_len m1 (ha_cons (he_var 2 rfl (.inr (.inl rfl)) rfl (ha_nil ?_))))))
    (blkOk_by (N := ["stream", "some", "left", "k"]) (sc := defScope (top 40)) (by decide +kernel)) sc_mixed.nd (fun s H C cl fp => pg_name sc_mixed.nd rfl (.inl rfl) (.inr rfl)) gi_name (fun i _ => pinP _ _ _)))
  have gl : ∀ m : Nat, ((List.range m).map fun i : Nat => D.int (i : Int)).length = m := fun m => by rw [List.length_map, List.length_range]
  refine hf_lenL (ds := OT.ds (xs.map .frz)) ⟨rfl, ha_nil ⟨_, rfl, by omega, by rw [od_ol]; omega, ?_⟩⟩
  rw [od_ol]
  refine ⟨by rw [gl]; simpa using h1, rfl, fun i acc n' Γ => ∃ picked rest : List D, acc = picked.map .frz ∧ picked.length = i ∧ (picked ++ rest).Perm xs ∧ n' + i = n ∧ Γ = [some (.frz (.opq (.ref st))), some (.frz (.lst xs)), some (.ol (rest.map .frz)), none], ⟨[], xs, rfl, rfl, List.Perm.refl _, rfl, rfl⟩, ?_, ?_⟩
  · rintro i acc n' Γ dd hd ⟨picked, rest, rfl, hp, hperm, hn', rfl⟩
    have hi : i < xs.length := by
      have := (List.getElem?_eq_some_iff.mp hd).1
      rw [gl] at this
      simpa using this
    have hrl : rest.length + i = xs.length := by
      have := hperm.length_eq
      rw [List.length_append] at this
      omega
    refine hg_name 3 ⟨by show (3 : Nat) < 4; decide, pinP _ _ _, fun s H C cl fp => ?_⟩
    refine he_popAt 2 rfl ?_ rfl (.inr (.inl rfl))
    refine he_callP O hr (ha_cons (he_var 0 rfl (.inr (.inl rfl)) rfl (ha_cons (he_bor fun E' xo' hP => he_fun b_len m1 (ha_cons (he_var 2 rfl (.inr (.inl rfl)) rfl (ha_nil ?_)))))))
    refine hf_lenL (ds := OT.ds (rest.map .frz)) ⟨rfl, ha_nil ⟨rfl, _, rfl, by rw [od_ol]; omega, by rw [od_ol]; omega, by omega, fun r q1 q2 => ?_⟩⟩
    rw [od_ol] at q2
    obtain ⟨j, rfl⟩ := Int.eq_ofNat_of_zero_le q1
    have hj : j < rest.length := by omega
    refine ⟨rest, j, rest[j], rfl, rfl, List.getElem?_eq_getElem hj, by omega, picked ++ [rest[j]], rest.eraseIdx j, by rw [List.map_append]; rfl, by rw [List.length_append, hp]; rfl, ?_, by omega, rfl⟩
    refine List.Perm.trans ?_ hperm
    rw [List.append_assoc]
    refine List.Perm.append_left _ ?_
    exact perm_erase rest j hj
  · rintro acc n' Γ ⟨picked, rest, rfl, hp, hperm, hn', rfl⟩
    rw [gl] at hp hn'
    have hp : picked.length = xs.length := by simpa using hp
    have hr0 : rest = [] := by
      have := hperm.length_eq
      rw [List.length_append] at this
      exact List.length_eq_zero_iff.mp (by omega)
    subst hr0
    have e : n' = n - xs.length := by
      have hn' : n' + xs.length = n := by simpa using hn'
      omega
    subst e
    exact hk picked (by simpa using hperm)
end
end K03

set_option Elab.async false
set_option linter.all false
set_option maxRecDepth 100000
set_option maxHeartbeats 4000000
namespace K03
open PySem PySem.Spec PyProof.Rows L2 DL Evl
/-- data that _law_same goes through with j calls within each other -/
def okS : Nat → D → Bool
  | 0, d => plain d && !isRow d && !isDct d
  | j + 1, d => plain d && (!isRow d || ((rowD d).all (okS j) && decide ((rowD d).length ≤ 100000))) && (match d with
    | .dct ks vs => okS j (.lst (zipD ks vs))
    | _ => true)
theorem okS_plain : ∀ {j : Nat} {d : D}, okS j d = true → plain d = true
  | 0, d, h => by
    have h : (plain d && !isRow d && !isDct d) = true := h
    rw [Bool.and_eq_true, Bool.and_eq_true] at h
    exact h.1.1
  | j + 1, d, h => by
    unfold okS at h
    rw [Bool.and_eq_true, Bool.and_eq_true] at h
    exact h.1.1
theorem okS_row {j : Nat} {d : D} (h : okS j d = true) (hr : isRow d = true) : ∃ i, j = i + 1 ∧ (∀ c ∈ rowD d, okS i c = true) ∧ (rowD d).length ≤ 100000 := by
  cases j with
  | zero =>
    have h : (plain d && !isRow d && !isDct d) = true := h
    rw [hr] at h
    simp at h
  | succ i =>
    refine ⟨i, rfl, ?_⟩
    unfold okS at h
    rw [Bool.and_eq_true, Bool.and_eq_true, hr] at h
    have h2 : ((rowD d).all (okS i) && decide ((rowD d).length ≤ 100000)) = true := by simpa using h.1.2
    rw [Bool.and_eq_true] at h2
    exact ⟨List.all_eq_true.mp h2.1, of_decide_eq_true h2.2⟩
theorem okS_dct {j : Nat} {ks vs : List D} (h : okS j (.dct ks vs) = true) : ∃ i, j = i + 1 ∧ okS i (.lst (zipD ks vs)) = true := by
  cases j with
  | zero => simp [okS, isDct] at h
  | succ i =>
    refine ⟨i, rfl, ?_⟩
    unfold okS at h
    rw [Bool.and_eq_true] at h
    exact h.2
section
variable {P : Program} {w : World} {K : PySem.W.Frag} {mg : Str → Option Value} {base : Heap} {st cs : Addr} {T : List (Addr × Str)}
def sp_same (j : Nat) : PSpec := fun ds n KP _ => ∃ d, ds = [d, d] ∧ okS j d = true ∧ KP n (.frz (.bl true))
abbrev Ns : List Str := ["found", "due", "x", "y"]
theorem sc_same : FnScope Ns ["found", "due"] (defScope (top 42)) := ⟨rfl, rfl, rfl, by decide +kernel, rfl, by decide +kernel, by decide +kernel⟩
theorem isRow_lt (d : D) : isRow d = (isLst d || isTup d) := by cases d <;> rfl
theorem ok_same (k : Nat) (d : Def1 K mg "_law_same" (top 42)) (m1 : mg "isinstance" = none) (m2 : mg "list" = none) (m3 : mg "tuple" = none) (m4 : mg "len" = none) (m5 : mg "all" = none) (m6 : mg "zip" = none) (m7 : mg "dict" = none) (m8 : mg "int" = none) (m9 : mg "bool" = none) (m10 : mg "str" = none) :
    ∀ j, OkF P w K mg base ⟨K, st, cs, T⟩ (j + 1) "_law_same" ["found", "due"] (pureSp (sp_same j)) := by
  have main : ∀ (j k : Nat), (∀ i, j = i + 1 → OkF P w K mg base ⟨K, st, cs, T⟩ k "_law_same" ["found", "due"] (pureSp (sp_same i))) → OkF P w K mg base ⟨K, st, cs, T⟩ (k + 1) "_law_same" ["found", "due"] (pureSp (sp_same j)) := by
    intro j k ih
    refine fn_pure d sc_same (fun f ds b n KP XP0 hr hl ⟨d, e, hd, hk⟩ hx => ?_) fun _ _ _ _ _ _ us hl => match us, hl with | [_, _], _ => rfl
    subst e
    have hp := okS_plain hd
    refine hss_cons (hs_if (ht_bl ?_))
    refine he_isRow m1 m2 m3 ?_
    refine he_v 1 rfl rfl ⟨d, rfl, hp, _, rfl, iteP ⟨fun h1 => ?_, fun h1 => ?_⟩⟩
    · -- a list, a tuple
      obtain ⟨i, rfl, hc, hlen⟩ := okS_row hd h1
      refine hss_cons (hs_if (ht_w (hw_or (ht_cmp ?_))))
      refine he_isi isLst T_isLst b_list m1 m2 ?_
      refine he_v 0 rfl rfl ⟨d, rfl, hp, ?_⟩
      refine he_isi isLst T_isLst b_list m1 m2 ?_
      refine he_v 1 rfl rfl ⟨d, rfl, hp, o_neB ⟨_, rfl, ?_⟩⟩
      rw [show (!decide (isLst d = isLst d)) = false by simp, if_neg (by decide)]
      refine hw_or1 (ht_cmp ?_)
      refine he_isi isTup T_isTup b_tuple m1 m3 ?_
      refine he_v 0 rfl rfl ⟨d, rfl, hp, ?_⟩
      refine he_isi isTup T_isTup b_tuple m1 m3 ?_
      refine he_v 1 rfl rfl ⟨d, rfl, hp, o_neB ⟨_, rfl, ?_⟩⟩
      rw [show (!decide (isTup d = isTup d)) = false by simp, if_neg (by decide)]
      refine hss_nil ?_
      refine hss_one (hs_ret ?_)
      refine he_and (he_cmp ?_)
      refine he_f1 b_len m4 ?_
      refine he_v 0 rfl rfl (hf_lenR h1 ?_)
      refine he_f1 b_len m4 ?_
      refine he_v 1 rfl rfl (hf_lenR h1 (o_eqI ⟨_, rfl, ?_⟩))
      rw [show decide (((rowD d).length : Int) = ((rowD d).length : Int)) = true by simp, if_pos rfl]
      refine he_one ?_
      refine he_f1 b_all m5 ?_
      refine he_map [("x", 2), ("y", 3)] (gTup K 2 (gCons (gName 2) (gCons (gName 3) gNil))) (fun _ => .frz (.bl true)) ?_ (blkOk_by (N := Ns) (sc := defScope (top 42)) (by decide +kernel)) sc_same.nd (fun s H C cl fp => pg_tup rfl (pgs_cons (pg_name sc_same.nd rfl (.inl rfl) (.inr rfl)) (pgs_cons (pg_name sc_same.nd rfl (.inl rfl) (.inr rfl)) pgs_nil))) gi_two (fun i _ => pinP _ _ _)
      refine hi_zip m6 (ha_cons (he_v 0 rfl rfl (ha_cons (he_v 1 rfl rfl (ha_nil ⟨rowD d, rowD d, ?_, ?_⟩)))))
      · rcases row_cases h1 with e | e
        · left; rw [← e]
        · right; rw [← e]
      · refine ⟨by rw [zipD_len]; omega, rfl, fun e he => ?_, hf_allM (f := fun _ => true) rfl ?_⟩
        · obtain ⟨c, hcm, rfl⟩ := zipD_self he
          refine hg_tup rfl (hgs_cons (hg_name 2 ⟨by show (2 : Nat) < 4; decide, pinP _ _ _, hgs_cons (hg_name 3 ⟨by show (3 : Nat) < 4; decide, pinP _ _ _, hgs_nil fun s H C cl fp => ?_⟩)⟩))
          exact he_c2 (ih i rfl) hr rfl (he_v 2 rfl rfl (he_v 3 rfl rfl ⟨c, rfl, hc c hcm, rfl, rfl, rfl⟩))
        · rw [show (List.all (zipD (rowD d) (rowD d)) fun _ => true) = true by simp]
          exact hk
    · -- no list, no tuple
      refine hss_nil (hss_cons (hs_if (ht_bl ?_)))
      refine he_isi isDct T_isDct b_dict m1 m7 ?_
      refine he_v 1 rfl rfl ⟨d, rfl, hp, _, rfl, iteP ⟨fun h2 => ?_, fun h2 => ?_⟩⟩
      · obtain ⟨ks, vs, rfl⟩ : ∃ ks vs, d = .dct ks vs := by
          cases d <;> first | exact ⟨_, _, rfl⟩ | cases h2
        obtain ⟨i, rfl, hi⟩ := okS_dct hd
        refine hss_one (hs_ret ?_)
        refine he_and (he_isi isDct T_isDct b_dict m1 m7 ?_)
        refine he_v 0 rfl rfl ⟨_, rfl, hp, _, rfl, ?_⟩
        rw [if_pos (show isDct (.dct ks vs) = true from rfl)]
        refine he_one ?_
        refine he_c2 (ih i rfl) hr rfl ?_
        refine he_items m2 (he_v 0 rfl rfl ⟨ks, vs, rfl, ?_⟩)
        refine he_items m2 (he_v 1 rfl rfl ⟨ks, vs, rfl, ?_⟩)
        have e : (OT.ol ((zipD ks vs).map .frz)).d = .lst (zipD ks vs) := by show D.lst (OT.ds _) = _; rw [od_ol]
        rw [e]
        exact ⟨_, rfl, hi, hk⟩
      · refine hss_nil (hss_cons (hs_if (ht_bl ?_)))
        refine he_isi isInt T_isInt b_int m1 m8 ?_
        refine he_v 1 rfl rfl ⟨d, rfl, hp, _, rfl, iteP ⟨fun h3 => ?_, fun h3 => ?_⟩⟩
        · refine hss_one (hs_ret ?_)
          refine he_and (he_isi isInt T_isInt b_int m1 m8 ?_)
          refine he_v 0 rfl rfl ⟨_, rfl, hp, _, rfl, ?_⟩
          rw [if_pos h3]
          refine he_and (he_cmp ?_)
          refine he_isi isBl T_isBl b_bool m1 m9 ?_
          refine he_v 0 rfl rfl ⟨_, rfl, hp, ?_⟩
          refine he_isi isBl T_isBl b_bool m1 m9 ?_
          refine he_v 1 rfl rfl ⟨_, rfl, hp, o_eqB ⟨_, rfl, ?_⟩⟩
          rw [show decide (isBl d = isBl d) = true by simp, if_pos rfl]
          refine he_one (he_cmp ?_)
          refine he_v 0 rfl rfl (he_v 1 rfl rfl ?_)
          cases d with
          | int i => exact o_eqI (by rw [show decide (i = i) = true by simp]; exact hk)
          | bl i => exact o_eqB (by rw [show decide (i = i) = true by simp]; exact hk)
          | _ => cases h3
        · refine hss_nil (hss_cons (hs_if (ht_cmp ?_)))
          refine he_v 1 rfl rfl (he_non (o_isN ⟨_, rfl, iteP ⟨fun h4 => ?_, fun h4 => ?_⟩⟩))
          · refine hss_one (hs_ret (he_cmp ?_))
            refine he_v 0 rfl rfl (he_non (o_isN ?_))
            rw [h4]
            exact hk
          · refine hss_nil (hss_cons (hs_if (ht_bl ?_)))
            refine he_isi isStr T_isStr b_str m1 m10 ?_
            refine he_v 1 rfl rfl ⟨d, rfl, hp, _, rfl, iteP ⟨fun h5 => ?_, fun h5 => ?_⟩⟩
            · refine hss_one (hs_ret ?_)
              refine he_and (he_isi isStr T_isStr b_str m1 m10 ?_)
              refine he_v 0 rfl rfl ⟨_, rfl, hp, _, rfl, ?_⟩
              rw [if_pos h5]
              refine he_one (he_cmp ?_)
              refine he_v 0 rfl rfl (he_v 1 rfl rfl ?_)
              cases d with
              | str x => exact o_eqS (by rw [show decide (x = x) = true by simp]; exact hk)
              | _ => cases h5
            · exfalso
              cases d with
              | non => cases h4
              | bl b => cases h3
              | int b => cases h3
              | str b => cases h5
              | lst b => cases h1
              | tup b => cases h1
              | dct b c => cases h2
              | obj C ns vs => cases hp
              | opq v => cases hp
  intro j
  induction j with
  | zero => exact main 0 0 (fun i e => by cases e)
  | succ j ih => exact main (j + 1) (j + 1) fun i e => by cases e; exact ih
end
end K03

set_option Elab.async false
set_option linter.all false
set_option maxRecDepth 100000
set_option maxHeartbeats 4000000
namespace K03
open PySem PySem.Spec PyProof.Rows L2 DL Evl
/-- two rows of one length, item by item -/
def All2 (R : D → D → Prop) (as bs : List D) : Prop := as.length = bs.length ∧ ∀ (i : Nat) a b, as[i]? = some a → bs[i]? = some b → R a b
/-- the same, lists for tuples and tuples for lists -/
def LooseN : Nat → D → D → Prop
  | 0, d, r => r = d
  | j + 1, d, r => if isRow d = true then ∃ rs, All2 (LooseN j) (rowD d) rs ∧ (r = .lst rs ∨ r = .tup rs) else r = d
def okDc : D → Bool
  | .dct [] [] => true
  | .dct _ _ => false
  | _ => true
theorem okDc_of {d : D} (h : isDct d = false) : okDc d = true := by cases d <;> first | rfl | cases h
theorem okDc_inv {d : D} (h : okDc d = true) (h1 : isDct d = true) : d = .dct [] [] := by
  cases d with
  | dct a b =>
    cases a with
    | nil => cases b with
      | nil => rfl
      | cons _ _ => cases h
    | cons _ _ => cases h
  | _ => cases h1
def okL : Nat → D → Bool
  | 0, d => plain d && !isRow d && okDc d
  | j + 1, d => plain d && okDc d && (!isRow d || ((rowD d).all (okL j) && decide ((rowD d).length ≤ 100000)))
def costL : Nat → D → Nat
  | 0, _ => 0
  | j + 1, d => if isRow d = true then ((rowD d).map (costL j)).sum + 1 else 0
theorem okL_plain : ∀ {j : Nat} {d : D}, okL j d = true → plain d = true ∧ okDc d = true
  | 0, d, h => by
    have h : (plain d && !isRow d && okDc d) = true := h
    rw [Bool.and_eq_true, Bool.and_eq_true] at h
    exact ⟨h.1.1, h.2⟩
  | j + 1, d, h => by
    unfold okL at h
    rw [Bool.and_eq_true, Bool.and_eq_true] at h
    exact ⟨h.1.1, h.1.2⟩
theorem okL_row {j : Nat} {d : D} (h : okL j d = true) (hr : isRow d = true) : ∃ i, j = i + 1 ∧ (∀ c ∈ rowD d, okL i c = true) ∧ (rowD d).length ≤ 100000 := by
  cases j with
  | zero =>
    have h : (plain d && !isRow d && okDc d) = true := h
    rw [hr] at h
    simp at h
  | succ i =>
    refine ⟨i, rfl, ?_⟩
    unfold okL at h
    rw [Bool.and_eq_true, Bool.and_eq_true, hr] at h
    have h2 : ((rowD d).all (okL i) && decide ((rowD d).length ≤ 100000)) = true := by simpa using h.2
    rw [Bool.and_eq_true] at h2
    exact ⟨List.all_eq_true.mp h2.1, of_decide_eq_true h2.2⟩
theorem All2.snoc {R : D → D → Prop} {as bs : List D} {a b : D} (h : All2 R as bs) (r : R a b) : All2 R (as ++ [a]) (bs ++ [b]) := by
  refine ⟨by rw [List.length_append, List.length_append, h.1]; rfl, fun i x y h1 h2 => ?_⟩
  by_cases q : i < as.length
  · rw [List.getElem?_append_left q] at h1
    rw [List.getElem?_append_left (by rw [← h.1]; exact q)] at h2
    exact h.2 i x y h1 h2
  · rw [List.getElem?_append_right (by omega)] at h1
    rw [List.getElem?_append_right (by rw [← h.1]; omega), ← h.1] at h2
    cases z : i - as.length with
    | zero =>
      rw [z] at h1 h2
      cases h1
      cases h2
      exact r
    | succ m => rw [z] at h1; simp at h1
section
variable {P : Program} {w : World} {K : PySem.W.Frag} {mg : Str → Option Value} {base : Heap} {st cs : Addr} {T : List (Addr × Str)}
def sp_loose (st : Addr) (j : Nat) : PSpec := fun ds n KP _ => ∃ d, ds = [.opq (.ref st), d] ∧ okL j d = true ∧ costL j d ≤ n ∧ ∀ r, LooseN j d r → KP (n - costL j d) (.frz r)
abbrev Nl : List Str := ["stream", "thing", "found", "key", "part"]
theorem sc_loose : FnScope Nl ["stream", "thing"] (defScope (top 43)) := ⟨rfl, rfl, rfl, by decide +kernel, rfl, by decide +kernel, by decide +kernel⟩
theorem ok_loose (k0 : Nat) (d : Def1 K mg "_law_loose" (top 43)) (O : OkF P w K mg base ⟨K, st, cs, T⟩ k0 "_law_below" ["stream", "many"] (pureSp (sp_below st))) (OM : OkF P w K mg base ⟨K, st, cs, T⟩ k0 "_law_mixed" ["stream", "some"] (pureSp (sp_mixed st))) (m1 : mg "isinstance" = none) (m2 : mg "list" = none) (m3 : mg "tuple" = none) (m7 : mg "dict" = none) :
    ∀ j, OkF P w K mg base ⟨K, st, cs, T⟩ (k0 + j + 1) "_law_loose" ["stream", "thing"] (pureSp (sp_loose st j)) := by
  have main : ∀ (j k : Nat), k0 ≤ k → (∀ i, j = i + 1 → OkF P w K mg base ⟨K, st, cs, T⟩ k "_law_loose" ["stream", "thing"] (pureSp (sp_loose st i))) → OkF P w K mg base ⟨K, st, cs, T⟩ (k + 1) "_law_loose" ["stream", "thing"] (pureSp (sp_loose st j)) := by
    intro j k hk0 ih
    refine fn_pure d sc_loose (fun f ds b n KP XP0 hr hl ⟨d, e, hd, hcost, hk⟩ hx => ?_) fun _ _ _ _ _ _ us hl => match us, hl with | [_, _], _ => rfl
    subst e
    obtain ⟨hp, hnd⟩ := okL_plain hd
    refine hss_cons (hs_if (ht_bl ?_))
    refine he_isi isDct T_isDct b_dict m1 m7 ?_
    refine he_v 1 rfl rfl ⟨d, rfl, hp, _, rfl, iteP ⟨fun h1 => ?_, fun h1 => ?_⟩⟩
    · have e := okDc_inv hnd h1
      subst e
      refine hss_one (hs_ret (he_frz (he_t1 b_dict m7 ?_)))
      refine he_map [("key", 3)] (gName 3) (fun _ => .frz .non) (hi_list ?_) (blkOk_by (N := Nl) (sc := defScope (top 43)) (by decide +kernel)) sc_loose.nd (fun s H C cl fp => pg_name sc_loose.nd rfl (.inl rfl) (.inr rfl)) gi_name (fun i _ => pinP _ _ _)
      refine he_c2 (OM.mono hk0) hr rfl (he_v 0 rfl rfl (he_t1 b_list m2 (he_v 1 rfl rfl (hf_listK rfl ?_))))
      refine ⟨[], rfl, by decide, Nat.zero_le _, fun ys hys => ?_⟩
      have : ys = [] := hys.eq_nil
      subst this
      refine ⟨[], rfl, by decide, rfl, fun d hd => by simp at hd, ?_⟩
      refine hf_frz1 (hf_dict0 rfl ?_)
      have e1 : costL j (.dct [] []) = 0 := by cases j <;> rfl
      have e2 : LooseN j (.dct [] []) (.dct [] []) := by cases j <;> rfl
      have := hk _ e2
      rw [e1] at this
      exact this
    refine hss_nil (hss_cons (hs_if (ht_not (ht_bl ?_))))
    refine he_isRow m1 m2 m3 ?_
    refine he_v 1 rfl rfl ⟨d, rfl, hp, _, rfl, iteP ⟨fun h2 => ?_, fun h2 => ?_⟩⟩
    · -- flat
      have h2 : isRow d = false := by simpa using h2
      refine hss_one (hs_ret (he_v 1 rfl rfl ?_))
      have e1 : costL j d = 0 := by cases j <;> simp [costL, h2]
      have e2 : LooseN j d d := by cases j <;> simp [LooseN, h2]
      have := hk d e2
      rw [e1] at this
      exact this
    · have h2 : isRow d = true := by simpa using h2
      obtain ⟨i, rfl, hc, hlen⟩ := okL_row hd h2
      have hco : costL (i + 1) d = ((rowD d).map (costL i)).sum + 1 := by unfold costL; rw [if_pos h2]
      refine hss_nil (hss_cons (hs_lc0 2 (pr_0 [("part", 4)] (gName 4) ?_) rfl (blkOk_by (N := Nl) (sc := defScope (top 43)) (by decide +kernel)) sc_loose.nd (fun s H C cl fp => pg_name sc_loose.nd rfl (.inl rfl) (.inr rfl)) gi_name (fun i _ => pinP _ _ _)))
      refine hi_rowV 1 rfl (.inr (.inl rfl)) rfl h2 ⟨hlen, rfl, fun m acc n' Γ => ∃ rs, acc = rs.map .frz ∧ All2 (LooseN i) ((rowD d).take m) rs ∧ n' = n - (((rowD d).take m).map (costL i)).sum ∧ Γ = [some (.frz (.opq (.ref st))), some (.frz d), none, none, none], ⟨[], rfl, ⟨rfl, fun i a b h _ => by simp at h⟩, rfl, rfl⟩, ?_, ?_⟩
      · rintro m acc n' Γ c hcm ⟨rs, rfl, h3, rfl, rfl⟩
        have cin := List.mem_of_getElem? hcm
        refine hg_name 4 ⟨by show (4 : Nat) < 5; decide, pinP _ _ _, fun s H C cl fp => ?_⟩
        have esum : ∀ m, m ≤ (rowD d).length → (((rowD d).take m).map (costL i)).sum ≤ ((rowD d).map (costL i)).sum := fun m _ => by
          conv => rhs; rw [← List.take_append_drop m (rowD d)]
          rw [List.map_append, List.sum_append]
          omega
        have hlt : m < (rowD d).length := (List.getElem?_eq_some_iff.mp hcm).1
        have es1 : (((rowD d).take (m + 1)).map (costL i)).sum = (((rowD d).take m).map (costL i)).sum + costL i c := by
          rw [List.take_add_one, hcm, List.map_append, List.sum_append]
          simp
        have hs1 := esum (m + 1) hlt
        refine he_c2 (ih i rfl) hr rfl (he_v 0 rfl rfl (he_v 4 rfl rfl ⟨c, rfl, hc c cin, by omega, fun r hr => ⟨rs ++ [r], by rw [List.map_append]; rfl, ?_, by omega, rfl⟩⟩))
        rw [List.take_add_one, hcm]
        exact h3.snoc hr
      · rintro acc n' Γ ⟨rs, rfl, h3, rfl, rfl⟩
        rw [List.take_length] at h3 ⊢
        refine ⟨by show (2 : Nat) < 5; decide, pinP _ _ _, hss_one (hs_ret (he_if (ht_cmp ?_)))⟩
        have fin : ∀ r, (r = .lst rs ∨ r = .tup rs) → KP (n - costL (i + 1) d) (.frz r) := fun r hr => hk r (by unfold LooseN; rw [if_pos h2]; exact ⟨rs, h3, hr⟩)
        refine he_c2 (O.mono hk0) hr rfl (he_v 0 rfl rfl (he_int ⟨2, rfl, by decide, by decide, by omega, fun r _ _ => he_int (o_eqI ⟨_, rfl, iteP ⟨fun h5 => ?_, fun h5 => ?_⟩⟩)⟩))
        · refine he_take 2 rfl (.inl rfl) rfl ?_
          have e : (OT.ol (rs.map .frz)).d = .lst rs := by show D.lst (OT.ds _) = _; rw [od_ol]
          rw [e]
          have := fin (.lst rs) (.inl rfl)
          rw [hco] at this
          rw [show n - ((rowD d).map (costL i)).sum - 1 = n - (((rowD d).map (costL i)).sum + 1) by omega]
          exact this
        · refine he_t1 b_tuple m3 (he_take 2 rfl (.inl rfl) rfl ?_)
          have e : (OT.ol (rs.map .frz)).d = .lst rs := by show D.lst (OT.ds _) = _; rw [od_ol]
          rw [e]
          refine hf_tupL ?_
          have := fin (.tup rs) (.inr rfl)
          rw [hco] at this
          rw [show n - ((rowD d).map (costL i)).sum - 1 = n - (((rowD d).map (costL i)).sum + 1) by omega]
          exact this
  intro j
  induction j with
  | zero => exact main 0 k0 (Nat.le_refl _) (fun i e => by cases e)
  | succ j ih => exact main (j + 1) (k0 + j + 1) (by omega) fun i e => by cases e; exact ih
end
end K03

set_option Elab.async false
set_option linter.all false
set_option maxRecDepth 100000
set_option maxHeartbeats 4000000
namespace K03
open PySem PySem.Spec PyProof.Rows L2 DL Evl
abbrev LATE : Str := "LATE"
def immut : Nat → D → Bool
  | 0, d => flat4 d
  | j + 1, d => flat4 d || (isTup d && (rowD d).all (immut j))
/-- an owned tree that _law_spoilt goes through with j calls within each other -/
def okP : Nat → OT → Bool
  | 0, .frz d => immut 0 d
  | j + 1, .frz d => immut (j + 1) d
  | j + 1, .ol ts => ts.all (okP j) && decide (ts.length ≤ 90000)
  | _, _ => false
def spoilO : Nat → OT → OT
  | j + 1, .ol ts => .ol (ts.map (spoilO j) ++ [.frz (.str LATE)])
  | _, t => t
theorem okP_frz {j : Nat} {d : D} : okP j (.frz d) = immut j d := by cases j <;> rfl
theorem spoilO_frz {j : Nat} {d : D} : spoilO j (.frz d) = .frz d := by cases j <;> rfl
theorem immut_plain {j : Nat} {d : D} (h : immut j d = true) : plain d = true ∧ isDct d = false ∧ isLst d = false := by
  cases d with
  | non => exact ⟨rfl, rfl, rfl⟩
  | bl b => exact ⟨rfl, rfl, rfl⟩
  | int b => exact ⟨rfl, rfl, rfl⟩
  | str b => exact ⟨rfl, rfl, rfl⟩
  | tup b => exact ⟨rfl, rfl, rfl⟩
  | lst b => cases j <;> cases h
  | dct b c => cases j <;> cases h
  | obj C ns vs => cases j <;> cases h
  | opq v => cases j <;> cases h
theorem immut_row {j : Nat} {d : D} (h : immut j d = true) (hr : isRow d = true) : ∃ i, j = i + 1 ∧ ∀ c ∈ rowD d, immut i c = true := by
  cases j with
  | zero =>
    have h : flat4 d = true := h
    cases d with
    | lst b => cases h
    | tup b => cases h
    | _ => cases hr
  | succ i =>
    refine ⟨i, rfl, ?_⟩
    unfold immut at h
    have hf : flat4 d = false := by
      cases d with
      | lst b => rfl
      | tup b => rfl
      | _ => cases hr
    rw [hf, Bool.false_or, Bool.and_eq_true] at h
    exact List.all_eq_true.mp h.2
section
variable {P : Program} {w : World} {K : PySem.W.Frag} {mg : Str → Option Value} {base : Heap} {st cs : Addr} {T : List (Addr × Str)}
def sp_spoilt (j : Nat) : FSpec := fun as n KP _ => ∃ t, as = [t] ∧ okP j t = true ∧ KP n [spoilO j t] (.frz .non)
abbrev Np : List Str := ["thing", "key", "part"]
end
end K03

set_option Elab.async false
set_option linter.all false
set_option maxRecDepth 100000
set_option maxHeartbeats 4000000
namespace K03
open PySem PySem.Spec PyProof.Rows L2 DL Evl
/-- what holds one LATE in each list, none in a tuple -/
def onceD : Nat → D → Bool
  | 0, d => plain d && !isRow d && !isDct d
  | j + 1, d => plain d && !isDct d && (!isRow d || ((rowD d).all (onceD j) && (decide ((rowD d).length ≤ 100000) && (match toPs (rowD d) with
    | some ps => SeqAt.shaped (.list ps) && decide (ps.countP (fun z => PyData.eqv z (.str LATE)) = if isLst d = true then 1 else 0)
    | none => false))))
theorem onceD_plain : ∀ {j : Nat} {d : D}, onceD j d = true → plain d = true ∧ isDct d = false
  | 0, d, h => by
    have h : (plain d && !isRow d && !isDct d) = true := h
    rw [Bool.and_eq_true, Bool.and_eq_true] at h
    exact ⟨h.1.1, by simpa using h.2⟩
  | j + 1, d, h => by
    unfold onceD at h
    rw [Bool.and_eq_true, Bool.and_eq_true] at h
    exact ⟨h.1.1, by simpa using h.1.2⟩
theorem onceD_row {j : Nat} {d : D} (h : onceD j d = true) (hr : isRow d = true) : ∃ i ps, j = i + 1 ∧ (∀ c ∈ rowD d, onceD i c = true) ∧ (rowD d).length ≤ 100000 ∧ toPs (rowD d) = some ps ∧ SeqAt.shaped (.list ps) = true ∧ ps.countP (fun z => PyData.eqv z (.str LATE)) = if isLst d = true then 1 else 0 := by
  cases j with
  | zero =>
    have h : (plain d && !isRow d && !isDct d) = true := h
    rw [hr] at h
    simp at h
  | succ i =>
    unfold onceD at h
    rw [Bool.and_eq_true, Bool.and_eq_true, hr, Bool.not_true, Bool.false_or, Bool.and_eq_true, Bool.and_eq_true] at h
    obtain ⟨_, h1, h2, h3⟩ := h
    cases q : toPs (rowD d) with
    | none => rw [q] at h3; cases h3
    | some ps =>
      rw [q] at h3
      have h3 : (SeqAt.shaped (.list ps) && decide (ps.countP (fun z => PyData.eqv z (.str LATE)) = if isLst d = true then 1 else 0)) = true := h3
      rw [Bool.and_eq_true] at h3
      exact ⟨i, ps, rfl, List.all_eq_true.mp h1, of_decide_eq_true h2, rfl, h3.1, of_decide_eq_true h3.2⟩
section
variable {P : Program} {w : World} {K : PySem.W.Frag} {mg : Str → Option Value} {base : Heap} {st cs : Addr} {T : List (Addr × Str)}
def sp_once (j : Nat) : PSpec := fun ds n KP _ => ∃ d, ds = [d] ∧ onceD j d = true ∧ KP n (.frz (.bl true))
abbrev No : List Str := ["thing", "many", "key", "part"]
theorem sh_late : SeqAt.shaped (.str LATE) = true := by decide +kernel
def sp_apart (j : Nat) : FSpec := fun as n KP _ => ∃ t, as = [t] ∧ isFrz t = false ∧ okP j t = true ∧ onceD j (spoilO j t).d = true ∧ KP n [spoilO j t] (.frz (.bl true))
end
end K03

set_option Elab.async false
set_option linter.all false
set_option maxRecDepth 100000
set_option maxHeartbeats 4000000
namespace K03
open PySem PySem.Spec PyProof.Rows L2 DL Evl
abbrev sg (c : Nat) : Str := ⟨#[c]⟩
abbrev lsD (ls : List Str) : D := .lst (ls.map .str)
theorem inD_strs (s : Str) : ∀ ls : List Str, inD (.str s) (ls.map .str) = decide (s ∈ ls)
  | [] => rfl
  | x :: ls => by
    have ih := inD_strs s ls
    unfold inD inV at ih ⊢
    rw [List.map_cons, List.map_cons, List.any_cons, ih]
    show (x == s || decide (s ∈ ls)) = decide (s ∈ x :: ls)
    by_cases h : x = s
    · subst h; simp
    · have h' : ¬ s = x := fun z => h z.symm
      simp [h, h']
theorem flat4_strs (ls : List Str) : (ls.map D.str).all flat4 = true := by
  rw [List.all_eq_true]
  intro d hd
  obtain ⟨x, _, rfl⟩ := List.mem_map.mp hd
  rfl
/-- a word of the letters -/
def ofL (ls : List Str) (x : Str) : Bool := x.cps.toList.all fun c => decide (sg c ∈ ls)
def isOf (ls : List Str) (d : D) (most : Int) : Bool := match d with
  | .str x => decide ((x.length : Int) ≤ most) && ofL ls x
  | _ => false
/-- a thing that may be asked: its text can be laid -/
def askOk (d : D) : Prop := plain d = true ∧ ∀ x, d = .str x → txtOk x = true
section
variable {P : Program} {w : World} {K : PySem.W.Frag} {mg : Str → Option Value} {base : Heap} {st cs : Addr} {T : List (Addr × Str)}
def sp_is_of : PSpec := fun ds n KP _ => ∃ ls d m, ds = [lsD ls, d, .int m] ∧ askOk d ∧ KP n (.frz (.bl (isOf ls d m)))
abbrev Niof : List Str := ["alphabet", "thing", "most", "sign"]
theorem sc_is_of : FnScope Niof ["alphabet", "thing", "most"] (defScope (top 23)) := ⟨rfl, rfl, rfl, by decide +kernel, rfl, by decide +kernel, by decide +kernel⟩
theorem ok_is_of (k : Nat) (d : Def1 K mg "is_of" (top 23)) (m1 : mg "isinstance" = none) (m4 : mg "len" = none) (m10 : mg "str" = none) :
    OkF P w K mg base ⟨K, st, cs, T⟩ (k + 1) "is_of" ["alphabet", "thing", "most"] (pureSp sp_is_of) := by
  refine fn_pure d sc_is_of (fun f ds b n KP XP0 hr hl ⟨ls, d, m, e, ⟨hp, ht⟩, hk⟩ hx => ?_) fun _ _ _ _ _ _ us hl => match us, hl with | [_, _, _], _ => rfl
  subst e
  refine hss_one (hs_ret (he_and ?_))
  refine he_isi isStr T_isStr b_str m1 m10 (he_v 1 rfl rfl ⟨d, rfl, hp, _, rfl, ?_⟩)
  cases d with
  | str x =>
    have hx := ht x rfl
    rw [if_pos (show isStr (.str x) = true from rfl)]
    refine he_and (he_cmp ?_)
    refine he_f1 b_len m4 (he_v 1 rfl rfl (hf_lenS ⟨txtOk_line hx, he_v 2 rfl rfl (o_le ⟨_, rfl, iteP ⟨fun h1 => ?_, fun h1 => ?_⟩⟩)⟩))
    · refine he_one (he_cmp (he_frzL ?_))
      refine he_filter [("sign", 3)] (gName 3) (fun d => !inD d (ls.map .str)) .frz ?_ (blkOk_by (N := Niof) (sc := defScope (top 23)) (by decide +kernel)) sc_is_of.nd (fun s H C cl fp => pg_name sc_is_of.nd rfl (.inl rfl) (.inr rfl)) gi_name (fun i _ => pinP _ _ _)
      refine hi_str (he_v 1 rfl rfl ⟨x, rfl, ?_, rfl, fun c hc => hg_name 3 ⟨by show (3 : Nat) < 4; decide, pinP _ _ _, fun s H C cl fp => ht_cmp ?_⟩, ?_⟩)
      · rw [List.length_map, Array.length_toList]
        exact txtOk_len hx
      · obtain ⟨c, hcm, rfl⟩ := List.mem_map.mp hc
        refine he_v 3 rfl rfl (he_v 0 rfl rfl (o_ninL rfl (flat4_strs ls) ⟨_, rfl, rfl, fun _ s H C cl fp => he_v 3 rfl rfl ⟨rfl, rfl, rfl⟩, fun _ => ⟨rfl, rfl⟩⟩))
      · have e : (x.cps.toList.map fun c => D.str ⟨#[c]⟩).filter (fun d => !inD d (ls.map .str)) = ((x.cps.toList.filter fun c => !decide (sg c ∈ ls)).map sg).map .str := by
          rw [List.filter_map, List.map_map]
          congr 1
          refine List.filter_congr fun c _ => ?_
          show (!inD (.str (sg c)) (ls.map .str)) = _
          rw [inD_strs]
        refine ⟨_, rfl, he_nilF ?_⟩
        rw [e]
        refine o_eqNil (fun y hy => ?_) hr.units ?_
        · obtain ⟨c, hc, rfl⟩ := List.mem_map.mp hy
          exact sg_lay (lay_mem (txtOk_lay hx) (List.mem_filter.mp hc).1)
        · have e2 : isOf ls (.str x) m = ((x.cps.toList.filter fun c => !decide (sg c ∈ ls)).map sg).isEmpty := by
            show (decide ((x.length : Int) ≤ m) && ofL ls x) = _
            rw [h1, Bool.true_and, List.isEmpty_map]
            unfold ofL
            generalize x.cps.toList = cs
            induction cs with
            | nil => rfl
            | cons c cs ih =>
              rw [List.all_cons, List.filter_cons]
              cases q : decide (sg c ∈ ls) with
              | true => simpa using ih
              | false => rfl
          rw [← e2]
          exact hk
    · have e2 : isOf ls (.str x) m = false := by
        show (decide ((x.length : Int) ≤ m) && ofL ls x) = _
        rw [h1]; rfl
      rw [e2] at hk
      exact hk
  | non => exact hk
  | bl b => exact hk
  | int b => exact hk
  | lst b => exact hk
  | tup b => exact hk
  | dct b c => exact hk
  | obj C ns vs => cases hp
  | opq v => cases hp
end
end K03

set_option Elab.async false
set_option linter.all false
set_option maxRecDepth 100000
set_option maxHeartbeats 4000000
namespace K03
open PySem PySem.Spec PyProof.Rows L2 DL Evl
abbrev SMALL : Str := "abcdefghijklmnopqrstuvwxyz"
def isSm (x : Str) : Prop := ∃ c, x = sg c ∧ c ∈ SMALL.cps.toList
section
variable {P : Program} {w : World} {K : PySem.W.Frag} {mg : Str → Option Value} {base : Heap} {st cs : Addr} {T : List (Addr × Str)}
/-! what the law hands in is right -/
def sp_is_letter : PSpec := fun ds n KP _ => ∃ x, ds = [.str x] ∧ isSm x ∧ KP n (.frz (.bl true))
theorem sc_is_letter : FnScope ["thing"] ["thing"] (defScope (top 21)) := ⟨rfl, rfl, rfl, by decide +kernel, rfl, by decide +kernel, by decide +kernel⟩
theorem ok_is_letter (k : Nat) (d : Def1 K mg "is_letter" (top 21)) (m1 : mg "isinstance" = none) (m4 : mg "len" = none) (m10 : mg "str" = none) (t : Tok) (gS : mg "SMALL" = some (.str SMALL t)) :
    OkF P w K mg base ⟨K, st, cs, T⟩ (k + 1) "is_letter" ["thing"] (pureSp sp_is_letter) := by
  refine fn_pure d sc_is_letter (fun f ds b n KP XP0 hr hl ⟨x, e, ⟨c, hxc, hc⟩, hk⟩ hx => ?_) fun _ _ _ _ _ _ us hl => match us, hl with | [_], _ => rfl
  subst e
  subst hxc
  refine hss_one (hs_ret (he_and ?_))
  refine he_isi isStr T_isStr b_str m1 m10 (he_v 0 rfl rfl ⟨_, rfl, rfl, _, rfl, ?_⟩)
  rw [if_pos (show isStr (.str (sg c)) = true from rfl)]
  refine he_and (he_cmp ?_)
  refine he_f1 b_len m4 (he_v 0 rfl rfl (hf_lenS ⟨by rw [sizeLine_eq]; show (1 : Nat) ≤ 16777216; decide, he_int (o_eqI ⟨_, rfl, ?_⟩)⟩))
  rw [show decide (((sg c).length : Int) = 1) = true by rfl, if_pos rfl]
  refine he_one (he_cmp (he_v 0 rfl rfl (he_gstr gS rfl (o_inC ?_))))
  rw [decide_eq_true hc]
  exact hk
def sp_letters_in : PSpec := fun ds n KP _ => ∃ d ls, ds = [d] ∧ isRow d = true ∧ rowD d = ls.map .str ∧ 1 ≤ ls.length ∧ ls.length ≤ 3 ∧ (∀ x ∈ ls, isSm x) ∧ ls.Nodup ∧ ∀ ys : List Str, ys.Perm ls → sortedS ys = true → KP n (.ol ((ys.map D.str).map .frz))
abbrev Nli : List Str := ["thing", "found", "one"]
theorem sc_letters_in : FnScope Nli ["thing"] (defScope (top 22)) := ⟨rfl, rfl, rfl, by decide +kernel, rfl, by decide +kernel, by decide +kernel⟩
theorem putD_new {acc : List (Key × D)} {k : Key} {d : D} (h : k ∉ acc.map (fun p => p.1)) : putD acc k d = acc ++ [(k, d)] := by
  unfold putD
  rw [if_neg]
  intro z
  obtain ⟨p, hp, e⟩ := List.any_eq_true.mp z
  exact h (List.mem_map.mpr ⟨p, hp, of_decide_eq_true e⟩)
theorem fold_put : ∀ (ls : List Str) (acc : List (Key × D)), (acc.map (fun p => p.1) ++ ls.map (Sum.inr : Str → Key)).Nodup →
    (ls.map D.str).foldl (fun acc d => putD acc (match d with | .str x => Sum.inr x | _ => Sum.inl 0) (.bl true)) acc = acc ++ ls.map fun x => (Sum.inr x, .bl true)
  | [], acc, _ => by simp
  | x :: ls, acc, h => by
    rw [List.map_cons, List.foldl_cons]
    have hx : (Sum.inr x : Key) ∉ acc.map (fun p => p.1) := fun z => by
      rw [List.map_cons] at h
      have := List.nodup_append.mp h
      exact this.2.2 _ z _ List.mem_cons_self rfl
    show List.foldl _ (putD acc (Sum.inr x) (.bl true)) _ = _
    rw [putD_new hx, fold_put ls _ (by rw [List.map_append, List.append_assoc]; exact h), List.append_assoc]
    rfl
theorem ok_letters_in (k : Nat) (d : Def1 K mg "letters_in" (top 22)) (O1 : OkF P w K mg base ⟨K, st, cs, T⟩ k "is_row" ["thing"] (pureSp sp_is_row)) (O2 : OkF P w K mg base ⟨K, st, cs, T⟩ k "is_letter" ["thing"] (pureSp sp_is_letter)) (m4 : mg "len" = none) (m11 : mg "sorted" = none) :
    OkF P w K mg base ⟨K, st, cs, T⟩ (k + 1) "letters_in" ["thing"] (pureSp sp_letters_in) := by
  refine fn_pure d sc_letters_in (fun f ds b n KP XP0 hr hl ⟨d, ls, e, hrow, hds, h1, h3, hls, hnd, hk⟩ hx => ?_) fun _ _ _ _ _ _ us hl => match us, hl with | [_], _ => rfl
  subst e
  have hp : plain d = true := by cases d <;> first | rfl | cases hrow
  have hlen : (rowD d).length = ls.length := by rw [hds, List.length_map]
  refine hss_cons (hs_if (ht_w (hw_or (ht_not (ht_bl ?_)))))
  refine he_c1 O1 hr rfl (he_v 0 rfl rfl ⟨d, rfl, hp, _, rfl, ?_⟩)
  rw [hrow, Bool.not_true, if_neg (by decide)]
  refine hw_or (ht_not (ht_chain ?_))
  refine he_int (he_f1 b_len m4 (he_v 0 rfl rfl (hf_lenR hrow ⟨_, _, rfl, rfl, o_le ⟨_, rfl, ?_⟩⟩)))
  rw [decide_eq_true (by omega : (1 : Int) ≤ ((rowD d).length : Int)), if_pos rfl]
  refine he_int (o_le ⟨_, rfl, ?_⟩)
  rw [decide_eq_true (by omega : ((rowD d).length : Int) ≤ 3), Bool.not_true, if_neg (by decide)]
  refine hw_or1 (ht_val ?_)
  refine he_filter [("one", 2)] (gName 2) (fun _ => false) .frz ?_ (blkOk_by (N := Nli) (sc := defScope (top 22)) (by decide +kernel)) sc_letters_in.nd (fun s H C cl fp => pg_name sc_letters_in.nd rfl (.inl rfl) (.inr rfl)) gi_name (fun i _ => pinP _ _ _)
  refine hi_rowV 0 rfl (.inl rfl) rfl hrow ⟨by omega, rfl, fun c hc => hg_name 2 ⟨by show (2 : Nat) < 3; decide, pinP _ _ _, fun s H C cl fp => ht_not (ht_bl ?_)⟩, ?_⟩
  · rw [hds] at hc
    obtain ⟨x, hxm, rfl⟩ := List.mem_map.mp hc
    refine he_c1 O2 hr rfl (he_v 2 rfl rfl ⟨x, rfl, hls x hxm, true, rfl, ?_⟩)
    exact ⟨rfl, fun z => absurd z (by decide), fun _ => ⟨rfl, rfl⟩⟩
  · have e : (rowD d).filter (fun _ => false) = [] := by simp
    rw [e]
    refine ⟨false, rfl, ?_⟩
    rw [if_neg (by decide)]
    refine hss_nil (hss_cons (hs_set 1 (he_f1 b_sorted m11 ?_) sc_letters_in.nd rfl (.inl rfl)))
    refine he_dcK [("one", 2)] (gName 2) (fun d => match d with | .str x => Sum.inr x | _ => Sum.inl 0) (.bl true) ?_ (blkOk_by (N := Nli) (sc := defScope (top 22)) (by decide +kernel)) sc_letters_in.nd (fun s H C cl fp => pg_name sc_letters_in.nd rfl (.inl rfl) (.inr rfl)) gi_name (fun i _ => pinP _ _ _)
    refine hi_rowV 0 rfl (.inl rfl) rfl hrow ⟨by omega, rfl, fun c hc => hg_name 2 ⟨by show (2 : Nat) < 3; decide, pinP _ _ _, fun s H C cl fp => ?_⟩, ?_⟩
    · rw [hds] at hc
      obtain ⟨x, hxm, rfl⟩ := List.mem_map.mp hc
      exact he_v 2 rfl rfl ⟨rfl, fun s H C cl fp => he_bl ⟨rfl, rfl, rfl⟩⟩
    · rw [hds, fold_put ls [] (by
        rw [List.map_nil, List.nil_append]
        exact List.Pairwise.map _ (fun a b h z => h (Sum.inr.inj z)) hnd), List.nil_append]
      refine hf_sortDO (zs := ls) rfl (by rw [List.map_map]; rfl) (by omega) fun ys hp hs => ⟨by show (1 : Nat) < 3; decide, pinP _ _ _, ?_⟩
      refine hss_one (hs_ret (he_if (ht_cmp ?_)))
      refine he_bor fun E' xo' hP => he_f1 b_len m4 (he_v 1 rfl rfl (hf_lenL (ds := OT.ds ((ys.map D.str).map .frz)) ⟨rfl, ?_⟩))
      refine he_f1 b_len m4 (he_v 0 rfl rfl (hf_lenR hrow (o_eqI ⟨_, rfl, ?_⟩)))
      rw [od_ol, List.length_map, hlen, hp.length_eq, decide_eq_true rfl, if_pos rfl]
      exact he_move 1 rfl (.inl rfl) rfl (hk ys hp hs)
end
end K03

set_option Elab.async false
set_option linter.all false
set_option maxRecDepth 100000
set_option maxHeartbeats 4000000
namespace K03
open PySem PySem.Spec PyProof.Rows L2 DL Evl
/-- a rule: a left side and a right side -/
abbrev Ru := Str × Str
abbrev ruD (p : Ru) : D := .tup [.str p.1, .str p.2]
def ruP (p : Ru) : PyData := .tuple [.str p.1, .str p.2]
def RuOk (ls : List Str) (p : Ru) : Prop := txtOk p.1 = true ∧ txtOk p.2 = true ∧ ofL ls p.1 = true ∧ ofL ls p.2 = true ∧ p.1.length ≤ 6 ∧ p.2.length ≤ 1 ∧ p.2.length < p.1.length
theorem toP_ru (p : Ru) : toP (ruD p) = some (ruP p) := rfl
theorem toPs_rus : ∀ ps : List Ru, toPs (ps.map ruD) = some (ps.map ruP)
  | [] => rfl
  | x :: xs => by
    show (match toP (ruD x), toPs (xs.map ruD) with | some p, some ps => some (p :: ps) | _, _ => none) = _
    rw [toPs_rus xs]
    rfl
theorem ruP_lay {p : Ru} (h1 : PyData.canLay0 (.str p.1) = true) (h2 : PyData.canLay0 (.str p.2) = true) : PyData.canLay0 (ruP p) = true := by
  show (PyData.canLay0 (.str p.1) && (PyData.canLay0 (.str p.2) && true)) = true
  rw [h1, h2]; rfl
theorem lay_rus {ls : List Str} : ∀ {ps : List Ru}, (∀ x ∈ ps, RuOk ls x) → PyData.canLayAll0 (ps.map ruP) = true
  | [], _ => rfl
  | x :: xs, h => by
    show (PyData.canLay0 (ruP x) && PyData.canLayAll0 (xs.map ruP)) = true
    have hx := h x List.mem_cons_self
    rw [ruP_lay (txtOk_lay hx.1) (txtOk_lay hx.2.1), lay_rus fun y hy => h y (List.mem_cons_of_mem _ hy)]
    rfl
theorem dep_rus : ∀ ps : List Ru, PyData.depthAll (ps.map ruP) ≤ 1
  | [] => by decide
  | x :: xs => by
    show max (PyData.depth (ruP x)) (PyData.depthAll (xs.map ruP)) ≤ 1
    have h : PyData.depth (ruP x) = 1 := rfl
    have := dep_rus xs
    omega
theorem sh_rus {ls : List Str} {ps : List Ru} (h : ∀ x ∈ ps, RuOk ls x) : SeqAt.shaped (.list (ps.map ruP)) = true := by
  show (PyData.canLayAll0 (ps.map ruP) && decide (PyData.depthAll (ps.map ruP) + 1 ≤ 64)) = true
  have := dep_rus ps
  rw [lay_rus h, decide_eq_true (by omega)]; rfl
theorem sh_ru {ls : List Str} {p : Ru} (h : RuOk ls p) : SeqAt.shaped (ruP p) = true := by
  show (PyData.canLay0 (ruP p) && decide (PyData.depth (ruP p) ≤ 64)) = true
  rw [ruP_lay (txtOk_lay h.1) (txtOk_lay h.2.1)]; rfl
theorem eqv_ru (p q : Ru) : PyData.eqv (ruP p) (ruP q) = decide (p = q) := by
  show ((p.1 == q.1) && ((p.2 == q.2) && true)) = _
  rw [Bool.and_true]
  obtain ⟨a, b⟩ := p
  obtain ⟨c, d⟩ := q
  by_cases h1 : a = c <;> by_cases h2 : b = d <;> simp [h1, h2]
theorem any_ru (p : Ru) : ∀ ps : List Ru, ((ps.map ruP).any fun z => PyData.eqv z (ruP p)) = decide (p ∈ ps)
  | [] => rfl
  | x :: xs => by
    rw [List.map_cons, List.any_cons, any_ru p xs, eqv_ru]
    by_cases h : x = p
    · subst h; simp
    · have h' : ¬ p = x := fun z => h z.symm
      simp [h, h']
section
variable {P : Program} {w : World} {K : PySem.W.Frag} {mg : Str → Option Value} {base : Heap} {st cs : Addr} {T : List (Addr × Str)}
def sp_rule_in : PSpec := fun ds n KP _ => ∃ ls d p, ds = [lsD ls, d] ∧ isRow d = true ∧ rowD d = [.str p.1, .str p.2] ∧ RuOk ls p ∧ KP n (.frz (ruD p))
theorem sc_rule_in : FnScope ["alphabet", "thing"] ["alphabet", "thing"] (defScope (top 24)) := ⟨rfl, rfl, rfl, by decide +kernel, rfl, by decide +kernel, by decide +kernel⟩
theorem isOf_true {ls : List Str} {x : Str} {m : Int} (h1 : (x.length : Int) ≤ m) (h2 : ofL ls x = true) : isOf ls (.str x) m = true := by
  show (decide ((x.length : Int) ≤ m) && ofL ls x) = true
  rw [decide_eq_true h1, h2]; rfl
theorem ask_str {x : Str} (h : txtOk x = true) : askOk (.str x) := ⟨rfl, fun y e => by cases e; exact h⟩
theorem ok_rule_in (k : Nat) (d : Def1 K mg "rule_in" (top 24)) (O1 : OkF P w K mg base ⟨K, st, cs, T⟩ k "is_row" ["thing"] (pureSp sp_is_row)) (O2 : OkF P w K mg base ⟨K, st, cs, T⟩ k "is_of" ["alphabet", "thing", "most"] (pureSp sp_is_of)) (m3 : mg "tuple" = none) (m4 : mg "len" = none) :
    OkF P w K mg base ⟨K, st, cs, T⟩ (k + 1) "rule_in" ["alphabet", "thing"] (pureSp sp_rule_in) := by
  refine fn_pure d sc_rule_in (fun f ds b n KP XP0 hr hl ⟨ls, d, p, e, hrow, hds, ⟨t1, t2, f1, f2, l1, l2, l3⟩, hk⟩ hx => ?_) fun _ _ _ _ _ _ us hl => match us, hl with | [_, _], _ => rfl
  subst e
  have hp : plain d = true := by cases d <;> first | rfl | cases hrow
  refine hss_cons (hs_if (ht_w (hw_or (ht_not (ht_bl ?_)))))
  refine he_c1 O1 hr rfl (he_v 1 rfl rfl ⟨d, rfl, hp, _, rfl, ?_⟩)
  rw [hrow, Bool.not_true, if_neg (by decide)]
  refine hw_or (ht_cmp ?_)
  refine he_f1 b_len m4 (he_v 1 rfl rfl (hf_lenR hrow (he_int (o_neI ⟨_, rfl, ?_⟩))))
  rw [hds, show (!decide ((([D.str p.1, D.str p.2] : List D).length : Int) = 2)) = false by rfl, if_neg (by decide)]
  refine hw_or (ht_not (ht_bl ?_))
  refine he_c3 O2 hr rfl (he_v 0 rfl rfl (he_ix (he_v 1 rfl rfl (he_int (o_ixR hrow (e := .str p.1) (by rw [hds]; rfl) (he_int ⟨ls, _, 6, rfl, ask_str t1, _, rfl, ?_⟩))))))
  rw [show isOf ls (OT.frz (D.str p.1)).d 6 = true from isOf_true (by omega) f1, Bool.not_true, if_neg (by decide)]
  refine hw_or1 (ht_not (ht_bl ?_))
  refine he_c3 O2 hr rfl (he_v 0 rfl rfl (he_ix (he_v 1 rfl rfl (he_int (o_ixR hrow (e := .str p.2) (by rw [hds]; rfl) (he_int ⟨ls, _, 1, rfl, ask_str t2, _, rfl, ?_⟩))))))
  rw [show isOf ls (OT.frz (D.str p.2)).d 1 = true from isOf_true (by omega) f2, Bool.not_true, if_neg (by decide)]
  refine hss_nil (hss_one (hs_ret (he_if (ht_cmp ?_))))
  refine he_f1 b_len m4 (he_ix (he_v 1 rfl rfl (he_int (o_ixR hrow (e := .str p.1) (by rw [hds]; rfl) (hf_lenS ⟨txtOk_line t1, ?_⟩)))))
  refine he_f1 b_len m4 (he_ix (he_v 1 rfl rfl (he_int (o_ixR hrow (e := .str p.2) (by rw [hds]; rfl) (hf_lenS ⟨txtOk_line t2, o_gt ⟨_, rfl, ?_⟩⟩)))))
  rw [decide_eq_true (by omega), if_pos rfl]
  refine he_t1 b_tuple m3 (he_v 1 rfl rfl (hf_tupR hrow ?_))
  rw [hds]
  exact hk
/-- rows of two texts -/
def rowIs (d : D) (p : Ru) : Prop := isRow d = true ∧ rowD d = [.str p.1, .str p.2]
def sp_pairs_in : PSpec := fun ds n KP _ => ∃ ls d, ∃ rs : List Ru, ds = [lsD ls, d] ∧ isRow d = true ∧ (rowD d).length = rs.length ∧ (∀ (i : Nat) (e : D) (p : Ru), (rowD d)[i]? = some e → rs[i]? = some p → rowIs e p) ∧ (∀ p ∈ rs, RuOk ls p) ∧ rs.Nodup ∧ rs.length ≤ 8 ∧ KP n (.ol ((rs.map ruD).map .frz))
abbrev Npi : List Str := ["alphabet", "thing", "found", "index", "one", "pair"]
theorem sc_pairs_in : FnScope Npi ["alphabet", "thing"] (defScope (top 25)) := ⟨rfl, rfl, rfl, by decide +kernel, rfl, by decide +kernel, by decide +kernel⟩
theorem ok_pairs_in (k : Nat) (d : Def1 K mg "pairs_in" (top 25)) (O1 : OkF P w K mg base ⟨K, st, cs, T⟩ k "is_row" ["thing"] (pureSp sp_is_row)) (O2 : OkF P w K mg base ⟨K, st, cs, T⟩ k "rule_in" ["alphabet", "thing"] (pureSp sp_rule_in)) (m4 : mg "enumerate" = none) (t : Tok) (gM : mg "MOST" = some (.int 8 t)) :
    OkF P w K mg base ⟨K, st, cs, T⟩ (k + 1) "pairs_in" ["alphabet", "thing"] (pureSp sp_pairs_in) := by
  refine fn_pure d sc_pairs_in (fun f ds b n KP XP0 hr hl ⟨ls, d, rs, e, hrow, hlen, hds, hok, hnd, h8, hk⟩ hx => ?_) fun _ _ _ _ _ _ us hl => match us, hl with | [_, _], _ => rfl
  subst e
  have hp : plain d = true := by cases d <;> first | rfl | cases hrow
  refine hss_cons (hs_if (ht_not (ht_bl ?_)))
  refine he_c1 O1 hr rfl (he_v 1 rfl rfl ⟨d, rfl, hp, _, rfl, ?_⟩)
  rw [hrow, Bool.not_true, if_neg (by decide)]
  refine hss_nil (hss_cons (hs_set 2 (he_list (ha_nil ⟨by decide, by show (2 : Nat) < 6; decide, pinP _ _ _, ?_⟩)) sc_pairs_in.nd rfl (.inl rfl)))
  refine hss_cons (hs_for (g := gTup K 2 (gCons (gName 3) (gCons (gName 4) gNil))) (hi_enumV 1 m4 rfl (.inl rfl) rfl hrow ⟨fun i n' Γ' => n' = n ∧ ∃ x y z, Γ' = [some (.frz (lsD ls)), some (.frz d), some (.ol (((rs.take i).map ruD).map .frz)), x, y, z], ⟨rfl, none, none, none, rfl⟩, ?_, ?_⟩) (pg_tup rfl (pgs_cons (pg_name sc_pairs_in.nd rfl (.inl rfl) (.inr rfl)) (pgs_cons (pg_name sc_pairs_in.nd rfl (.inl rfl) (.inr rfl)) pgs_nil))))
  · rintro i n' Γ' e he ⟨rfl, x, y, z, rfl⟩
    obtain ⟨e', he', rfl⟩ := enumD_at he
    have hi : i < rs.length := by
      rw [← hlen]
      exact (List.getElem?_eq_some_iff.mp he').1
    obtain ⟨p, hpi⟩ : ∃ p, rs[i]? = some p := ⟨_, List.getElem?_eq_getElem hi⟩
    have hpm : p ∈ rs := List.mem_of_getElem? hpi
    obtain ⟨r1, r2⟩ := hds i e' p he' hpi
    have hnot : p ∉ rs.take i := by
      intro hm
      obtain ⟨j, hj⟩ := List.getElem?_of_mem hm
      have hji : j < i := by
        have := (List.getElem?_eq_some_iff.mp hj).1
        rw [List.length_take] at this
        omega
      rw [List.getElem?_take_of_lt hji] at hj
      have := (List.getElem?_inj (by omega) hnd).mp (hj.trans hpi.symm)
      omega
    refine hg_tup rfl (hgs_cons (hg_name 3 ⟨by show (3 : Nat) < 6; decide, pinP _ _ _, hgs_cons (hg_name 4 ⟨by show (4 : Nat) < 6; decide, pinP _ _ _, hgs_nil ?_⟩)⟩))
    refine hss_cons (hs_set 5 (he_c2 O2 hr rfl (he_v 0 rfl rfl (he_v 4 rfl rfl ⟨ls, e', p, rfl, r1, r2, hok p hpm, by show (5 : Nat) < 6; decide, pinP _ _ _, ?_⟩))) sc_pairs_in.nd rfl (.inl rfl))
    refine hss_cons (hs_if (ht_w (hw_or (ht_cmp ?_))))
    refine he_v 5 rfl rfl (he_non (o_isN ⟨_, rfl, ?_⟩))
    rw [show isN (ruD p) = false from rfl, if_neg (by decide)]
    refine hw_or (ht_bor fun E' xo' hP => ht_cmp ?_)
    refine he_v 5 rfl rfl (he_v 2 rfl rfl (o_inD (p := ruP p) (qs := (rs.take i).map ruP) rfl ?_ (sh_ru (hok p hpm)) (sh_rus fun q hq => hok q (List.mem_of_mem_take hq)) (by show b.S.X.A.units + 65 < cLine; have := hr.un; omega) ⟨_, rfl, ?_⟩))
    · rw [od_ol]; exact toPs_rus _
    rw [any_ru, decide_eq_false hnot, if_neg (by decide)]
    refine hw_or1 (ht_cmp ?_)
    refine he_v 3 rfl rfl (he_gint gM rfl (o_ge ⟨_, rfl, ?_⟩))
    rw [decide_eq_false (by omega), if_neg (by decide)]
    refine hss_nil (hss_one (hs_expr (he_append 2 rfl (he_v 5 rfl rfl ⟨_, rfl, by rw [List.length_map, List.length_map, List.length_take]; omega, rfl, some (.frz (.int i)), some (.frz e'), some (.frz (ruD p)), ?_⟩) rfl (.inl rfl))))
    have et : rs.take (i + 1) = rs.take i ++ [p] := by
      rw [List.take_succ, hpi]; rfl
    rw [et, List.map_append, List.map_append]
    rfl
  · rintro n' Γ' ⟨rfl, x, y, z, rfl⟩
    refine hss_one (hs_ret (he_move 2 rfl (.inl rfl) rfl ?_))
    rw [enumD_len, hlen, List.take_length]
    exact hk
end
end K03

set_option Elab.async false
set_option linter.all false
set_option maxRecDepth 100000
set_option maxHeartbeats 4000000
namespace K03
open PySem PySem.Spec PyProof.Rows L2 DL Evl
abbrev rsD (rs : List Ru) : D := .lst (rs.map ruD)
/-- a Rules -/
abbrev ruleD (C : Addr) (ls : List Str) (rs : List Ru) : D := .obj C ["alphabet", "held"] [lsD ls, rsD rs]
abbrev rulesO (C : Addr) (ls : List Str) (rs : List Ru) : OT := .oo C ["alphabet", "held"] [.frz (lsD ls), .ol ((rs.map ruD).map .frz)]
section
variable {P : Program} {w : World} {K : PySem.W.Frag} {mg : Str → Option Value} {base : Heap} {st cs : Addr} {T : List (Addr × Str)} {C : Addr}
/-- what is known of the class Rules -/
structure RulesC (K : PySem.W.Frag) (C : Addr) : Prop where
  c : Cls K C
  a : NoAttr K C "alphabet"
  h : NoAttr K C "held"
def sp_init (C : Addr) : FSpec := fun as n KP _ => ∃ d e ls rs, as = [.oo C [] [], .frz d, .frz e] ∧ isRow d = true ∧ rowD d = ls.map .str ∧ 1 ≤ ls.length ∧ ls.length ≤ 3 ∧ (∀ x ∈ ls, isSm x) ∧ ls.Nodup ∧
  isRow e = true ∧ (rowD e).length = rs.length ∧ (∀ (i : Nat) (c : D) (p : Ru), (rowD e)[i]? = some c → rs[i]? = some p → rowIs c p) ∧ rs.Nodup ∧ rs.length ≤ 8 ∧ ∀ ys : List Str, ys.Perm ls → sortedS ys = true → (∀ p ∈ rs, RuOk ys p) ∧ KP n [rulesO C ys rs, .frz d, .frz e] (.frz .non)
theorem sc_init : FnScope ["self", "letters", "pairs"] ["self", "letters", "pairs"] (defScope (mthd (top 26) 0)) := ⟨rfl, rfl, rfl, by decide +kernel, rfl, by decide +kernel, by decide +kernel⟩
theorem ok_init (k : Nat) (d : DefI K mg "Rules" C "Rules.__init__" (mthd (top 26) 0)) (c : RulesC K C) (O1 : OkF P w K mg base ⟨K, st, cs, T⟩ k "letters_in" ["thing"] (pureSp sp_letters_in)) (O2 : OkF P w K mg base ⟨K, st, cs, T⟩ k "pairs_in" ["alphabet", "thing"] (pureSp sp_pairs_in)) :
    OkI P w K mg base ⟨K, st, cs, T⟩ (k + 1) "Rules" C ["self", "letters", "pairs"] (sp_init C) := by
  refine fn_okI d sc_init (fun f as b n KP XP0 hr hl ⟨d, e, ls, rs, has, h1, h2, h3, h4, h5, h6, g1, g2, g3, g4, g5, hk⟩ hx => ?_) fun _ _ _ _ _ _ us hl => match us, hl with | [_, _, _], _ => rfl
  subst has
  refine hss_cons (hs_fldNew 0 (he_c1 O1 hr rfl (he_v 1 rfl rfl ⟨d, ls, rfl, h1, h2, h3, h4, h5, h6, fun ys hp hs => ⟨C, [], [], rfl, c.c, c.a, by decide, by decide, ?_⟩⟩)) rfl (.inl rfl))
  obtain ⟨hok, hK⟩ := hk ys hp hs
  refine hss_cons (hs_if (ht_bor fun E' xo' hP => ht_cmp ?_))
  refine he_fld (he_v 0 rfl rfl ⟨C, ["alphabet"], _, _, rfl, c.c, c.a, rfl, he_non (o_isN ⟨_, rfl, ?_⟩)⟩)
  rw [show isN (OT.ol (List.map OT.frz (List.map D.str ys))).d = false from rfl, if_neg (by decide)]
  refine hss_nil (hss_one (hs_fldNew 0 (he_c2 O2 hr rfl ?_) rfl (.inl rfl)))
  refine he_fldO 0 0 rfl c.c c.a (by decide) rfl rfl ?_ rfl (.inl rfl)
  refine he_v 2 rfl rfl ⟨ys, e, rs, ?_, g1, g2, g3, hok, g4, g5, C, ["alphabet"], [.frz (lsD ys)], ?_, c.c, c.h, by decide, by decide, ?_⟩
  · show [(OT.ol ((ys.map D.str).map .frz)).d, e] = _
    rw [show (OT.ol ((ys.map D.str).map .frz)).d = lsD ys by show D.lst (OT.ds _) = _; rw [od_ol]]
  · show some (some (OT.oo C ["alphabet"] [.frz (OT.ol ((ys.map D.str).map .frz)).d])) = _
    rw [show (OT.ol ((ys.map D.str).map .frz)).d = lsD ys by show D.lst (OT.ds _) = _; rw [od_ol]]
  · refine ⟨_, ⟨rulesO C ys rs, _, rfl, ?_, ⟨.frz d, _, rfl, ?_, ⟨.frz e, _, rfl, ?_, rfl⟩⟩⟩, hK⟩
    · rw [if_neg (by exact Bool.false_ne_true)]; rfl
    · rw [if_pos (show isFrz (OT.frz d) = true from rfl)]
    · rw [if_pos (show isFrz (OT.frz e) = true from rfl)]
/-- r.letters(), r.pairs() -/
def sp_letters (C : Addr) : PSpec := fun ds n KP _ => ∃ ls rs, ds = [ruleD C ls rs] ∧ KP n (.ol ((ls.map D.str).map .frz))
def sp_pairs (C : Addr) : PSpec := fun ds n KP _ => ∃ ls rs, ds = [ruleD C ls rs] ∧ KP n (.ol ((rs.map ruD).map .frz))
theorem sc_letters : FnScope ["self"] ["self"] (defScope (mthd (top 26) 2)) := ⟨rfl, rfl, rfl, by decide +kernel, rfl, by decide +kernel, by decide +kernel⟩
theorem sc_pairs : FnScope ["self"] ["self"] (defScope (mthd (top 26) 3)) := ⟨rfl, rfl, rfl, by decide +kernel, rfl, by decide +kernel, by decide +kernel⟩
theorem ok_letters (k : Nat) (d : DefM K C "letters" "Rules.letters" (mthd (top 26) 2)) (c : RulesC K C) (m2 : mg "list" = none) :
    OkM P w K mg base ⟨K, st, cs, T⟩ (k + 1) C "letters" ["self"] (pureSp (sp_letters C)) := by
  refine fn_pureM d sc_letters (fun f ds b n KP XP0 hr hl ⟨ls, rs, e, hk⟩ hx => ?_) fun _ _ _ _ _ _ us hl => match us, hl with | [_], _ => rfl
  subst e
  exact hss_one (hs_ret (he_t1 b_list m2 (he_fld (he_v 0 rfl rfl ⟨C, _, _, _, rfl, c.c, c.a, rfl, hf_listL hk⟩))))
theorem ok_pairs (k : Nat) (d : DefM K C "pairs" "Rules.pairs" (mthd (top 26) 3)) (c : RulesC K C) (m2 : mg "list" = none) :
    OkM P w K mg base ⟨K, st, cs, T⟩ (k + 1) C "pairs" ["self"] (pureSp (sp_pairs C)) := by
  refine fn_pureM d sc_pairs (fun f ds b n KP XP0 hr hl ⟨ls, rs, e, hk⟩ hx => ?_) fun _ _ _ _ _ _ us hl => match us, hl with | [_], _ => rfl
  subst e
  exact hss_one (hs_ret (he_t1 b_list m2 (he_fld (he_v 0 rfl rfl ⟨C, _, _, _, rfl, c.c, c.h, rfl, hf_listL hk⟩))))
end
end K03

set_option Elab.async false
set_option linter.all false
set_option maxRecDepth 100000
set_option maxHeartbeats 4000000
namespace K03
open PySem PySem.Spec PyProof.Rows L2 DL Evl
theorem any_fil {α : Type} (f : α → Bool) : ∀ l : List α, (!(l.filter f).isEmpty) = l.any f
  | [] => rfl
  | x :: l => by
    have ih := any_fil f l
    rw [List.filter_cons, List.any_cons]
    cases q : f x with
    | true => simp
    | false => simpa using ih
theorem isC_plain {C : Addr} {d : D} (h : plain d = true) : isC C d = false := by
  cases d <;> first | rfl | cases h
section
variable {P : Program} {w : World} {K : PySem.W.Frag} {mg : Str → Option Value} {base : Heap} {st cs : Addr} {T : List (Addr × Str)} {C CE CW : Addr}
theorem he_isC {S : Sit} {n : Nat} {Γ : Slots} {KK : Nat → Slots → OT → Prop} {pos p p2 : Pos} {e : Expr} {x : Str} {C : Addr} (o : OwnC S.X.K C) (m1 : S.X.mg "isinstance" = none) (hm : S.X.mg x = some (.ref C))
    (h : HE S e n Γ fun n1 Γ1 r => ∃ d, r = .frz d ∧ (plain d = true ∨ ∃ ns ds, d = .obj C ns ds) ∧ KK n1 Γ1 (.frz (.bl (isC C d))))
    (hg : Gl S.X "isinstance" := by rfl) (hg2 : Gl S.X x := by rfl) (hdb : (x == ("__debug__" : Str)) = false := by decide)
    (he : starEach (e :: [.Name x p2]) S.X.env = (false, eval e S.X.env) :: starEach [.Name x p2] S.X.env := by rfl) (hpl : (backTo pos (starEach [.Name x p2] S.X.env)).any (·.1) = false := by rfl) (hs : starEach (.Name x p2 :: []) S.X.env = (false, eval (.Name x p2) S.X.env) :: starEach [] S.X.env := by rfl) :
    HE S (.Call (.Name "isinstance" p) [e, .Name x p2] [] pos) n Γ KK := by
  refine he_fun b_isinstance m1 (ha_cons (h.mono fun n1 Γ1 r ⟨d, hr, hp, hk2⟩ => ?_) he) hg (by decide) (by decide) he hpl
  subst hr
  exact ha_cons (he_cls hm (ha_nil (hf_isC o hp hk2)) hg2 hdb) hs
/-- a Rules, or plain data -/
def sp_need_rules (C CE : Addr) : PSpec := fun ds n KP XP => ∃ d, ds = [d] ∧ ((∃ ls rs, d = ruleD C ls rs) ∧ KP n (.frz d) ∨ plain d = true ∧ XP n CE ["thing"] [d])
theorem sc_need_rules : FnScope ["rules"] ["rules"] (defScope (top 27)) := ⟨rfl, rfl, rfl, by decide +kernel, rfl, by decide +kernel, by decide +kernel⟩
theorem ok_need_rules (k : Nat) (d : Def1 K mg "need_rules" (top 27)) (o : OwnC K C) (g : mg "Rules" = some (.ref C)) (m1 : mg "isinstance" = none) (X : OkX P w K mg base "BadRules" CE "thing") :
    OkF P w K mg base ⟨K, st, cs, T⟩ (k + 3) "need_rules" ["rules"] (pureSp (sp_need_rules C CE)) := by
  refine fn_pure d sc_need_rules (fun f ds b n KP XP0 hr hl ⟨d, e, h⟩ hx => ?_) fun _ _ _ _ _ _ us hl => match us, hl with | [_], _ => rfl
  subst e
  refine hss_cons (hs_if (ht_not (ht_bl ?_)))
  rcases h with ⟨⟨ls, rs, rfl⟩, hk⟩ | ⟨hp, hk⟩
  · refine he_isC o m1 g (he_v 0 rfl rfl ⟨_, rfl, .inr ⟨_, _, rfl⟩, _, rfl, ?_⟩)
    rw [show isC C (ruleD C ls rs) = true from decide_eq_true rfl, Bool.not_true, if_neg (by decide)]
    exact hss_nil (hss_one (hs_ret (he_v 0 rfl rfl hk)))
  · refine he_isC o m1 g (he_v 0 rfl rfl ⟨d, rfl, .inl hp, _, rfl, ?_⟩)
    rw [isC_plain hp, Bool.not_false, if_pos rfl]
    exact hss_one (hs_raise X (hr.mono (by omega)) (he_v 0 rfl rfl (hx _ _ _ _ _ hk)))
def sp_is_word (C : Addr) : PSpec := fun ds n KP _ => ∃ ls rs d, ds = [ruleD C ls rs, d] ∧ askOk d ∧ KP n (.frz (.bl (isOf ls d 60)))
theorem sc_is_word : FnScope ["rules", "thing"] ["rules", "thing"] (defScope (top 29)) := ⟨rfl, rfl, rfl, by decide +kernel, rfl, by decide +kernel, by decide +kernel⟩
theorem ok_is_word (k : Nat) (d : Def1 K mg "is_word" (top 29)) (c : RulesC K C) (O2 : OkF P w K mg base ⟨K, st, cs, T⟩ k "is_of" ["alphabet", "thing", "most"] (pureSp sp_is_of)) (t : Tok) (g : mg "LONGEST" = some (.int 60 t)) :
    OkF P w K mg base ⟨K, st, cs, T⟩ (k + 1) "is_word" ["rules", "thing"] (pureSp (sp_is_word C)) := by
  refine fn_pure d sc_is_word (fun f ds b n KP XP0 hr hl ⟨ls, rs, d, e, ha, hk⟩ hx => ?_) fun _ _ _ _ _ _ us hl => match us, hl with | [_, _], _ => rfl
  subst e
  exact hss_one (hs_ret (he_c3 O2 hr rfl (he_fld (he_v 0 rfl rfl ⟨C, _, _, _, rfl, c.c, c.a, rfl, he_v 1 rfl rfl (he_gint g rfl ⟨ls, d, 60, rfl, ha, hk⟩)⟩))))
def sp_need_word (C CW : Addr) : PSpec := fun ds n KP XP => ∃ ls rs d, ds = [ruleD C ls rs, d] ∧ askOk d ∧ (if isOf ls d 60 = true then KP n (.frz d) else XP n CW ["thing"] [d])
theorem sc_need_word : FnScope ["rules", "word"] ["rules", "word"] (defScope (top 30)) := ⟨rfl, rfl, rfl, by decide +kernel, rfl, by decide +kernel, by decide +kernel⟩
theorem ok_need_word (k : Nat) (d : Def1 K mg "need_word" (top 30)) (O2 : OkF P w K mg base ⟨K, st, cs, T⟩ (k + 2) "is_word" ["rules", "thing"] (pureSp (sp_is_word C))) (X : OkX P w K mg base "BadWord" CW "thing") :
    OkF P w K mg base ⟨K, st, cs, T⟩ (k + 3) "need_word" ["rules", "word"] (pureSp (sp_need_word C CW)) := by
  refine fn_pure d sc_need_word (fun f ds b n KP XP0 hr hl ⟨ls, rs, d, e, ha, hk⟩ hx => ?_) fun _ _ _ _ _ _ us hl => match us, hl with | [_, _], _ => rfl
  subst e
  refine hss_cons (hs_if (ht_not (ht_bl ?_)))
  refine he_c2 O2 hr rfl (he_v 0 rfl rfl (he_v 1 rfl rfl ⟨ls, rs, d, rfl, ha, _, rfl, ?_⟩))
  cases q : isOf ls d 60 with
  | true =>
    rw [q, if_pos rfl] at hk
    rw [Bool.not_true, if_neg (by decide)]
    exact hss_nil (hss_one (hs_ret (he_v 1 rfl rfl hk)))
  | false =>
    rw [q, if_neg (by decide)] at hk
    rw [Bool.not_false, if_pos rfl]
    exact hss_one (hs_raise X (hr.mono (by omega)) (he_v 1 rfl rfl (hx _ _ _ _ _ hk)))
/-! has_left -/
def hasL (rs : List Ru) (x : Str) : Bool := rs.any fun p => occ p.1 x
def lefD : D → D
  | .tup (d :: _) => d
  | _ => .non
def occL (x : Str) (d : D) : Bool := match lefD d with
  | .str y => occ y x
  | _ => false
def sp_has_left (C : Addr) : PSpec := fun ds n KP _ => ∃ ls rs x, ds = [ruleD C ls rs, .str x] ∧ rs.length ≤ 8 ∧ (∀ p ∈ rs, RuOk ls p) ∧ KP n (.frz (.bl (hasL rs x)))
abbrev Nhl : List Str := ["rules", "word", "left", "right"]
/-- is_form -/
def sp_is_form (C CE CW : Addr) : PSpec := fun ds n KP XP => ∃ d e, ds = [d, e] ∧ ((∃ ls rs, d = ruleD C ls rs ∧ rs.length ≤ 8 ∧ (∀ p ∈ rs, RuOk ls p) ∧ askOk e ∧ ((∃ x, e = .str x ∧ isOf ls e 60 = true ∧ KP n (.frz (.bl (!hasL rs x)))) ∨ isOf ls e 60 = false ∧ XP n CW ["thing"] [e])) ∨ plain d = true ∧ XP n CE ["thing"] [d])
abbrev Nif : List Str := ["rules", "word", "held"]
end
end K03

set_option Elab.async false
set_option linter.all false
set_option maxRecDepth 100000
set_option maxHeartbeats 4000000
namespace K03
open PySem PySem.Spec PyProof.Rows L2 DL Evl
/-! the forms, layer by layer -/
def stepW (ls : List Str) (rs : List Ru) (x : Str) : List Str := (ls.filter fun l => !hasL rs (x ++ l)).map fun l => x ++ l
def lays (ls : List Str) (rs : List Ru) : Nat → List Str
  | 0 => [("" : Str)]
  | t + 1 => (lays ls rs t).flatMap (stepW ls rs)
def formsF (ls : List Str) (rs : List Ru) : Nat → List Str
  | 0 => [("" : Str)]
  | t + 1 => formsF ls rs t ++ lays ls rs (t + 1)
theorem str_len_app (x y : Str) : (x ++ y).length = x.length + y.length := by
  show (x.cps ++ y.cps).size = _
  rw [Array.size_append]; rfl
theorem lays_txt {ls : List Str} {rs : List Ru} (h1 : ∀ l ∈ ls, l.length = 1) : ∀ {t : Nat} {x : Str}, x ∈ lays ls rs t → x.length = t
  | 0, x, h => by
    have : x = ("" : Str) := by simpa [lays] using h
    subst this; rfl
  | t + 1, x, h => by
    obtain ⟨y, hy, hx⟩ := List.mem_flatMap.mp h
    obtain ⟨l, hl, rfl⟩ := List.mem_map.mp hx
    rw [str_len_app, lays_txt h1 hy, h1 l (List.mem_filter.mp hl).1]
theorem flat_len {α β : Type} {f : α → List β} {m : Nat} (h : ∀ x, (f x).length ≤ m) : ∀ l : List α, (l.flatMap f).length ≤ l.length * m
  | [] => by simp
  | x :: l => by
    rw [List.flatMap_cons, List.length_append, List.length_cons, Nat.succ_mul]
    have := flat_len h l
    have := h x
    omega
theorem stepW_len {ls : List Str} {rs : List Ru} (h3 : ls.length ≤ 3) (x : Str) : (stepW ls rs x).length ≤ 3 := by
  unfold stepW
  rw [List.length_map]
  exact Nat.le_trans (List.length_filter_le _ _) h3
theorem lays_len {ls : List Str} {rs : List Ru} (h3 : ls.length ≤ 3) : ∀ t : Nat, (lays ls rs t).length ≤ 3 ^ t
  | 0 => by simp [lays]
  | t + 1 => by
    have := flat_len (stepW_len (rs := rs) h3) (lays ls rs t)
    have h2 := lays_len (rs := rs) h3 t
    show ((lays ls rs t).flatMap (stepW ls rs)).length ≤ _
    rw [Nat.pow_succ]
    omega
theorem forms_len {ls : List Str} {rs : List Ru} (h3 : ls.length ≤ 3) : ∀ t : Nat, (formsF ls rs t).length ≤ 3 ^ (t + 1)
  | 0 => by simp [formsF]
  | t + 1 => by
    have h1 := lays_len (rs := rs) h3 (t + 1)
    have h2 := forms_len (rs := rs) h3 t
    show (formsF ls rs t ++ lays ls rs (t + 1)).length ≤ _
    rw [List.length_append, Nat.pow_succ 3 (t + 1)]
    omega
def stD : D → Str
  | .str x => x
  | _ => ("" : Str)
abbrev strsO (xs : List Str) : OT := .ol ((xs.map D.str).map .frz)
theorem strsO_app (a b : List Str) : strsO (a ++ b) = OT.ol ((a.map D.str).map OT.frz ++ (b.map D.str).map OT.frz) := by
  show OT.ol (((a ++ b).map D.str).map OT.frz) = _
  rw [List.map_append, List.map_append]
theorem strsO_d (xs : List Str) : (strsO xs).d = lsD xs := by show D.lst (OT.ds _) = _; rw [od_ol]
section
variable {P : Program} {w : World} {K : PySem.W.Frag} {mg : Str → Option Value} {base : Heap} {st cs : Addr} {T : List (Addr × Str)} {C CE CW : Addr}
def sp_forms_to (C : Addr) : PSpec := fun ds n KP _ => ∃ ls rs, ∃ m : Nat, ds = [ruleD C ls rs, .int (m : Int)] ∧ ls.length ≤ 3 ∧ (∀ l ∈ ls, l.length = 1) ∧ rs.length ≤ 8 ∧ (∀ p ∈ rs, RuOk ls p) ∧ m ≤ 5 ∧ KP n (strsO (formsF ls rs m))
abbrev Nft : List Str := ["rules", "many", "found", "front", "turn", "longer", "word", "letter"]
end
end K03

set_option Elab.async false
set_option linter.all false
set_option maxRecDepth 100000
set_option maxHeartbeats 4000000
namespace K03
open PySem PySem.Spec PyProof.Rows L2 DL Evl
section
variable {P : Program} {w : World} {K : PySem.W.Frag} {mg : Str → Option Value} {base : Heap} {st cs : Addr} {T : List (Addr × Str)} {C CE CM : Addr}
def sp_forms (C CE CM : Addr) : PSpec := fun ds n KP XP => ∃ d e, ds = [d, e] ∧ ((∃ ls rs, d = ruleD C ls rs ∧ ls.length ≤ 3 ∧ (∀ l ∈ ls, l.length = 1) ∧ rs.length ≤ 8 ∧ (∀ p ∈ rs, RuOk ls p) ∧ plain e = true ∧ ((∃ m : Nat, e = .int (m : Int) ∧ m ≤ 5 ∧ KP n (strsO (formsF ls rs m))) ∨ isNum e 0 5 = false ∧ XP n CM ["thing"] [e])) ∨ plain d = true ∧ XP n CE ["thing"] [d])
abbrev Nfo : List Str := ["rules", "many", "held"]
/-! the law's own words -/
def allW (ls : List Str) : Nat → List Str
  | 0 => [("" : Str)]
  | t + 1 => (allW ls t).flatMap fun x => ls.map fun l => x ++ l
def wordsF (ls : List Str) : Nat → List Str
  | 0 => [("" : Str)]
  | t + 1 => wordsF ls t ++ allW ls (t + 1)
theorem allW_txt {ls : List Str} (h1 : ∀ l ∈ ls, l.length = 1) : ∀ {t : Nat} {x : Str}, x ∈ allW ls t → x.length = t
  | 0, x, h => by
    have : x = ("" : Str) := by simpa [allW] using h
    subst this; rfl
  | t + 1, x, h => by
    obtain ⟨y, hy, hx⟩ := List.mem_flatMap.mp h
    obtain ⟨l, hl, rfl⟩ := List.mem_map.mp hx
    rw [str_len_app, allW_txt h1 hy, h1 l hl]
theorem allW_len {ls : List Str} (h3 : ls.length ≤ 3) : ∀ t : Nat, (allW ls t).length ≤ 3 ^ t
  | 0 => by simp [allW]
  | t + 1 => by
    have := flat_len (m := 3) (f := fun x : Str => ls.map fun l => x ++ l) (fun x => by rw [List.length_map]; exact h3) (allW ls t)
    have h2 := allW_len h3 t
    show ((allW ls t).flatMap fun x => ls.map fun l => x ++ l).length ≤ _
    rw [Nat.pow_succ]
    omega
theorem words_len {ls : List Str} (h3 : ls.length ≤ 3) : ∀ t : Nat, (wordsF ls t).length ≤ 3 ^ (t + 1)
  | 0 => by simp [wordsF]
  | t + 1 => by
    have h1 := allW_len h3 (t + 1)
    have h2 := words_len h3 t
    show (wordsF ls t ++ allW ls (t + 1)).length ≤ _
    rw [List.length_append, Nat.pow_succ 3 (t + 1)]
    omega
def sp_bwords : PSpec := fun ds n KP _ => ∃ ls, ∃ m : Nat, ds = [lsD ls, .int (m : Int)] ∧ ls.length ≤ 3 ∧ (∀ l ∈ ls, l.length = 1) ∧ m ≤ 5 ∧ KP n (strsO (wordsF ls m))
abbrev Nbw : List Str := ["letters", "many", "found", "rows", "turn", "longer", "row", "letter"]
/-! the law's own rules: letters and pairs -/
abbrev rowsD (ls : List Str) (rs : List Ru) : D := .lst [lsD ls, rsD rs]
def sp_bhas : PSpec := fun ds n KP _ => ∃ ls rs x, ds = [rowsD ls rs, .str x] ∧ rs.length ≤ 8 ∧ (∀ p ∈ rs, RuOk ls p) ∧ KP n (.frz (.bl (hasL rs x)))
abbrev Nbh : List Str := ["rules", "word", "left", "right"]
def sp_bforms : PSpec := fun ds n KP _ => ∃ ls rs, ∃ m : Nat, ds = [rowsD ls rs, .int (m : Int)] ∧ ls.length ≤ 3 ∧ (∀ l ∈ ls, l.length = 1) ∧ rs.length ≤ 8 ∧ (∀ p ∈ rs, RuOk ls p) ∧ m ≤ 5 ∧ KP n (strsO ((wordsF ls m).filter fun x => !hasL rs x))
end
end K03

set_option Elab.async false
set_option linter.all false
set_option maxRecDepth 100000
set_option maxHeartbeats 4000000
namespace K03
open PySem PySem.Spec PyProof.Rows L2 DL Evl
def allL : List Str := SMALL.cps.toList.map sg
theorem allL_nd : allL.Nodup := by decide +kernel
theorem allL_len : allL.length = 26 := by decide +kernel
theorem strs_of {ys : List D} {zs : List Str} (h : ys.Perm (zs.map .str)) : ∃ us : List Str, ys = us.map .str ∧ us.Perm zs := by
  have e : ys = (ys.map stD).map .str := by
    rw [List.map_map]
    conv => lhs; rw [← List.map_id ys]
    refine List.map_congr_left fun d hd => ?_
    obtain ⟨x, _, rfl⟩ := List.mem_map.mp (h.mem_iff.mp hd)
    rfl
  refine ⟨ys.map stD, e, ?_⟩
  have h2 := h.map stD
  rw [List.map_map] at h2
  have e2 : (zs.map (stD ∘ D.str)) = zs := by
    conv => rhs; rw [← List.map_id zs]
    rfl
  rw [e2] at h2
  exact h2
section
variable {P : Program} {w : World} {K : PySem.W.Frag} {mg : Str → Option Value} {base : Heap} {st cs : Addr} {T : List (Addr × Str)} {C CE CM : Addr}
def sp_bshown (C : Addr) : PSpec := fun ds n KP _ => ∃ ls rs, ds = [ruleD C ls rs] ∧ KP n (.ol [strsO ls, .ol ((rs.map ruD).map .frz)])
def LsOk (ls : List Str) : Prop := 1 ≤ ls.length ∧ ls.length ≤ 3 ∧ (∀ x ∈ ls, isSm x) ∧ ls.Nodup ∧ sortedS ls = true
def sp_bletters (st : Addr) : PSpec := fun ds n KP _ => ∃ m : Nat, ds = [.opq (.ref st), .int (m : Int)] ∧ 1 ≤ m ∧ m ≤ 3 ∧ 26 ≤ n ∧ ∀ ls, LsOk ls → ls.length = m → KP (n - 26) (strsO ls)
end
end K03

set_option Elab.async false
set_option linter.all false
set_option maxRecDepth 100000
set_option maxHeartbeats 4000000
namespace K03
open PySem PySem.Spec PyProof.Rows L2 DL Evl
theorem rising_pw : ∀ (p : Str) (l : List Str), risingS p l = true → (p :: l).Pairwise (fun a b : Str => a.cps.toList ≤ b.cps.toList)
  | p, [], _ => List.pairwise_singleton _ _
  | p, x :: r, h => by
    have h : (!ltCps x.cps.toList p.cps.toList && risingS x r) = true := h
    rw [Bool.and_eq_true, ltCps_eq] at h
    have h1 : p.cps.toList ≤ x.cps.toList := by
      have := h.1
      simpa using this
    have ih := rising_pw x r h.2
    refine List.pairwise_cons.mpr ⟨fun y hy => ?_, ih⟩
    rcases List.mem_cons.mp hy with e | hy
    · subst e; exact h1
    · exact List.le_trans h1 (List.rel_of_pairwise_cons ih hy)
theorem sorted_pw : ∀ (l : List Str), sortedS l = true → l.Pairwise (fun a b : Str => a.cps.toList ≤ b.cps.toList)
  | [], _ => List.Pairwise.nil
  | p :: l, h => rising_pw p l h
theorem str_antisymm {a b : Str} (h1 : a.cps.toList ≤ b.cps.toList) (h2 : b.cps.toList ≤ a.cps.toList) : a = b := by
  obtain ⟨a⟩ := a
  obtain ⟨b⟩ := b
  have : a.toList = b.toList := List.le_antisymm h1 h2
  rw [Array.toList_inj.mp this]
theorem sorted_uniq {a b : List Str} (h : a.Perm b) (ha : sortedS a = true) (hb : sortedS b = true) : a = b := by
  exact h.eq_of_pairwise (fun x y _ _ h1 h2 => str_antisymm h1 h2) (sorted_pw a ha) (sorted_pw b hb)
/-! what is loose -/
theorem loose_row {j : Nat} {d r : D} (h : LooseN (j + 1) d r) (hd : isRow d = true) : ∃ rs, All2 (LooseN j) (rowD d) rs ∧ isRow r = true ∧ rowD r = rs := by
  have h : if isRow d = true then ∃ rs, All2 (LooseN j) (rowD d) rs ∧ (r = .lst rs ∨ r = .tup rs) else r = d := h
  rw [if_pos hd] at h
  obtain ⟨rs, h1, h3⟩ := h
  rcases h3 with e | e <;> subst e <;> exact ⟨rs, h1, rfl, rfl⟩
theorem loose_flat : ∀ {j : Nat} {d r : D}, LooseN j d r → isRow d = false → r = d
  | 0, _, _, h, _ => h
  | j + 1, d, r, h, hd => by
    have h : if isRow d = true then ∃ rs, All2 (LooseN j) (rowD d) rs ∧ (r = .lst rs ∨ r = .tup rs) else r = d := h
    rw [if_neg (by rw [hd]; decide)] at h
    exact h
theorem all2_flat {j : Nat} {as rs : List D} (h : All2 (LooseN j) as rs) (hf : ∀ a ∈ as, isRow a = false) : rs = as := by
  obtain ⟨h1, h2⟩ := h
  refine List.ext_getElem? fun i => ?_
  by_cases q : i < rs.length
  · have q2 : i < as.length := by omega
    have g := loose_flat (h2 i _ _ (List.getElem?_eq_getElem q2) (List.getElem?_eq_getElem q)) (hf _ (List.getElem_mem q2))
    rw [List.getElem?_eq_getElem q, List.getElem?_eq_getElem q2, g]
  · rw [List.getElem?_eq_none (by omega), List.getElem?_eq_none (by omega)]
theorem loose_strs {r : D} {j : Nat} {ls : List Str} (h : LooseN (j + 1) (lsD ls) r) : isRow r = true ∧ rowD r = ls.map .str := by
  obtain ⟨rs, h1, h2, h3⟩ := loose_row h rfl
  refine ⟨h2, h3.trans (all2_flat h1 fun a ha => ?_)⟩
  obtain ⟨x, _, rfl⟩ := List.mem_map.mp ha
  rfl
theorem loose_ru {r : D} {j : Nat} {p : Ru} (h : LooseN (j + 1) (ruD p) r) : rowIs r p := by
  obtain ⟨rs, h1, h2, h3⟩ := loose_row h rfl
  refine ⟨h2, h3.trans (all2_flat h1 fun a ha => ?_)⟩
  have ha : a ∈ [D.str p.1, D.str p.2] := ha
  simp at ha
  rcases ha with e | e <;> subst e <;> rfl
theorem loose_rus {r : D} {j : Nat} {rs : List Ru} (h : LooseN (j + 2) (rsD rs) r) : isRow r = true ∧ (rowD r).length = rs.length ∧ ∀ (i : Nat) (c : D) (p : Ru), (rowD r)[i]? = some c → rs[i]? = some p → rowIs c p := by
  obtain ⟨us, h1, h2, h3⟩ := loose_row h rfl
  rw [h3]
  refine ⟨h2, ?_, fun i c p hc hp => ?_⟩
  · have := h1.1
    rw [show rowD (rsD rs) = rs.map ruD from rfl, List.length_map] at this
    exact this.symm
  · exact loose_ru (h1.2 i (ruD p) c (by show (rs.map ruD)[i]? = _; rw [List.getElem?_map, hp]; rfl) hc)
theorem loose_rows {r : D} {j : Nat} {ls : List Str} {rs : List Ru} (h : LooseN (j + 3) (rowsD ls rs) r) : ∃ a b, isRow r = true ∧ rowD r = [a, b] ∧ (isRow a = true ∧ rowD a = ls.map .str) ∧ isRow b = true ∧ (rowD b).length = rs.length ∧ ∀ (i : Nat) (c : D) (p : Ru), (rowD b)[i]? = some c → rs[i]? = some p → rowIs c p := by
  obtain ⟨us, h1, h2, h3⟩ := loose_row h rfl
  have hl : us.length = 2 := h1.1.symm
  obtain ⟨a, b, rfl⟩ := two_of hl
  exact ⟨a, b, h2, h3, loose_strs (h1.2 0 (lsD ls) a rfl rfl), loose_rus (h1.2 1 (rsD rs) b rfl rfl)⟩
theorem okL_flat {j : Nat} {d : D} (h1 : plain d = true) (h2 : isRow d = false) (h3 : isDct d = false) : okL j d = true := by
  cases j with
  | zero => show (plain d && !isRow d && okDc d) = true; rw [h1, h2, okDc_of h3]; rfl
  | succ j => unfold okL; rw [h1, h2, okDc_of h3]; rfl
theorem okL_rowI {j : Nat} {d : D} (h1 : isRow d = true) (h2 : ∀ c ∈ rowD d, okL j c = true) (h3 : (rowD d).length ≤ 100000) : okL (j + 1) d = true := by
  have e1 : plain d = true := by cases d <;> first | rfl | cases h1
  have e2 : isDct d = false := by cases d <;> first | rfl | cases h1
  unfold okL
  rw [e1, okDc_of e2, h1, List.all_eq_true.mpr h2, decide_eq_true h3]; rfl
theorem okL_strs {j : Nat} {ls : List Str} (h : ls.length ≤ 100000) : okL (j + 1) (lsD ls) = true := by
  refine okL_rowI rfl (fun c hc => ?_) (by show (ls.map D.str).length ≤ _; rw [List.length_map]; exact h)
  obtain ⟨x, _, rfl⟩ := List.mem_map.mp hc
  exact okL_flat rfl rfl rfl
theorem okL_ru {j : Nat} (p : Ru) : okL (j + 1) (ruD p) = true := by
  refine okL_rowI rfl (fun c hc => ?_) (by show (2 : Nat) ≤ 100000; decide)
  have ha : c ∈ [D.str p.1, D.str p.2] := hc
  simp at ha
  rcases ha with e | e <;> subst e <;> exact okL_flat rfl rfl rfl
theorem okL_rows {ls : List Str} {rs : List Ru} (h1 : ls.length ≤ 100000) (h2 : rs.length ≤ 100000) : okL 3 (rowsD ls rs) = true := by
  refine okL_rowI rfl (fun c hc => ?_) (by show (2 : Nat) ≤ 100000; decide)
  have ha : c ∈ [lsD ls, rsD rs] := hc
  simp at ha
  rcases ha with e | e <;> subst e
  · exact okL_strs h1
  · refine okL_rowI rfl (fun c hc => ?_) (by show (rs.map ruD).length ≤ _; rw [List.length_map]; exact h2)
    obtain ⟨x, _, rfl⟩ := List.mem_map.mp hc
    exact okL_ru x
theorem sum_const {α : Type} {f : α → Nat} {m : Nat} : ∀ {l : List α}, (∀ x ∈ l, f x = m) → (l.map f).sum = l.length * m
  | [], _ => by simp
  | x :: l, h => by
    rw [List.map_cons, List.sum_cons, h x List.mem_cons_self, sum_const fun y hy => h y (List.mem_cons_of_mem _ hy), List.length_cons, Nat.succ_mul, Nat.add_comm]
theorem cost_rows (ls : List Str) (rs : List Ru) : costL 3 (rowsD ls rs) = rs.length + 3 := by
  have e1 : costL 2 (lsD ls) = 1 := by
    show ((ls.map D.str).map (costL 1)).sum + 1 = 1
    rw [List.map_map, sum_const (f := costL 1 ∘ D.str) (m := 0) (fun x _ => rfl)]
    omega
  have e2 : costL 2 (rsD rs) = rs.length + 1 := by
    show ((rs.map ruD).map (costL 1)).sum + 1 = _
    rw [List.map_map, sum_const (f := costL 1 ∘ ruD) (m := 1) (fun x _ => rfl)]
    omega
  show ([costL 2 (lsD ls), costL 2 (rsD rs)].sum) + 1 = _
  rw [e1, e2]
  simp only [List.sum_cons, List.sum_nil]
  omega
section
variable {P : Program} {w : World} {K : PySem.W.Frag} {mg : Str → Option Value} {base : Heap} {st cs : Addr} {T : List (Addr × Str)} {C CE CM : Addr}
/-- right rules -/
def RsOk (ls : List Str) (rs : List Ru) : Prop := rs.length ≤ 8 ∧ rs.Nodup ∧ ∀ p ∈ rs, RuOk ls p
def sp_bmade (st C : Addr) : PSpec := fun ds n KP _ => ∃ ls rs, ds = [.opq (.ref st), rowsD ls rs] ∧ LsOk ls ∧ RsOk ls rs ∧ 14 ≤ n ∧ KP (n - (ls.length + rs.length + 3)) (rulesO C ls rs)
end
end K03

set_option Elab.async false
set_option linter.all false
set_option maxRecDepth 100000
set_option maxHeartbeats 4000000
namespace K03
open PySem PySem.Spec PyProof.Rows L2 DL Evl
def oddD : List D := [.non, .int 5, .str "a", .lst [], .dct [] [], .tup [.lst [.str "a"], .lst []], .bl true, .str "rules"]
def noD (l : Str) : List D := [.non, .int 5, .str "A", .str (strRep l 61), .lst [.str l], .str (l ++ "\n"), .bl true]
theorem at0 (l : Str) (ls : List Str) : atI ((l :: ls).map D.str) 0 = some (.str l) := atI_nat (xs := (l :: ls).map D.str) (j := 0) rfl
section
variable {P : Program} {w : World} {K : PySem.W.Frag} {mg : Str → Option Value} {base : Heap} {st cs : Addr} {T : List (Addr × Str)} {C CE CM : Addr}
def sp_bodd (st : Addr) : PSpec := fun ds n KP _ => ds = [.opq (.ref st)] ∧ 1 ≤ n ∧ ∀ d ∈ oddD, KP (n - 1) (.frz d)
def sp_bno_word (st : Addr) : PSpec := fun ds n KP _ => ∃ l ls, ds = [.opq (.ref st), lsD (l :: ls)] ∧ l.length = 1 ∧ 1 ≤ n ∧ ∀ d ∈ noD l, KP (n - 1) (.frz d)
end
end K03

set_option Elab.async false
set_option linter.all false
set_option maxRecDepth 100000
set_option maxHeartbeats 4000000
namespace K03
open PySem PySem.Spec PyProof.Rows L2 DL Evl
theorem join_cps : ∀ ys : List Str, (Str.join ("" : Str) ys).cps.toList = ys.flatMap fun y => y.cps.toList
  | [] => rfl
  | [x] => by simp [Str.join]
  | x :: y :: r => by
    have ih := join_cps (y :: r)
    show ((x.cps ++ ("" : Str).cps) ++ (Str.join ("" : Str) (y :: r)).cps).toList = _
    rw [Array.toList_append, ih, Array.toList_append, List.flatMap_cons, show ("" : Str).cps.toList = [] from rfl, List.append_nil]
    rfl
theorem sm_lt {x : Str} (h : isSm x) : ∃ c, x = sg c ∧ c < 0x110000 := by
  obtain ⟨c, e, hc⟩ := h
  exact ⟨c, e, lay_mem (x := SMALL) (by decide +kernel) hc⟩
theorem join_sm {ls : List Str} (hls : ∀ l ∈ ls, isSm l) : ∀ {ys : List Str}, (∀ y ∈ ys, y ∈ ls) → (ys.flatMap fun y => y.cps.toList).length = ys.length ∧ ∀ c ∈ (ys.flatMap fun y => y.cps.toList), sg c ∈ ls ∧ c < 0x110000
  | [], _ => ⟨rfl, fun c hc => by simp at hc⟩
  | y :: ys, h => by
    obtain ⟨i1, i2⟩ := join_sm hls fun z hz => h z (List.mem_cons_of_mem _ hz)
    have hy := h y List.mem_cons_self
    obtain ⟨c, rfl, hc⟩ := sm_lt (hls y hy)
    rw [List.flatMap_cons]
    refine ⟨by rw [List.length_append, i1]; show 1 + ys.length = _; rw [List.length_cons]; omega, fun d hd => ?_⟩
    rcases List.mem_append.mp hd with hd | hd
    · have : d = c := by simpa using hd
      subst this
      exact ⟨hy, hc⟩
    · exact i2 d hd
theorem join_ok {ls ys : List Str} (hls : ∀ l ∈ ls, isSm l) (h : ∀ y ∈ ys, y ∈ ls) (h60 : ys.length ≤ 60) : ofL ls (Str.join ("" : Str) ys) = true ∧ (Str.join ("" : Str) ys).length = ys.length ∧ txtOk (Str.join ("" : Str) ys) = true := by
  obtain ⟨i1, i2⟩ := join_sm hls h
  have hl : (Str.join ("" : Str) ys).length = ys.length := by
    show (Str.join ("" : Str) ys).cps.size = _
    rw [← Array.length_toList, join_cps, i1]
  refine ⟨?_, hl, ?_⟩
  · unfold ofL
    rw [join_cps, List.all_eq_true]
    exact fun c hc => decide_eq_true (i2 c hc).1
  · unfold txtOk
    rw [hl, decide_eq_true (by omega), Bool.and_true]
    show (Str.join ("" : Str) ys).cps.all (· < 0x110000) = true
    rw [← Array.all_toList, join_cps, List.all_eq_true]
    exact fun c hc => decide_eq_true (i2 c hc).2
section
variable {P : Program} {w : World} {K : PySem.W.Frag} {mg : Str → Option Value} {base : Heap} {st cs : Addr} {T : List (Addr × Str)}
def sp_bword (st : Addr) : PSpec := fun ds n KP _ => ∃ ls, ∃ m : Nat, ds = [.opq (.ref st), lsD ls, .int (m : Int)] ∧ 1 ≤ ls.length ∧ ls.length ≤ 3 ∧ (∀ l ∈ ls, isSm l) ∧ m ≤ 60 ∧ m + 1 ≤ n ∧ ∀ n' x, n ≤ n' + (m + 1) → n' ≤ n → ofL ls x = true → x.length ≤ m → txtOk x = true → KP n' (.frz (.str x))
abbrev Nbd : List Str := ["stream", "letters", "many", "k"]
end
end K03

set_option Elab.async false
set_option linter.all false
set_option maxRecDepth 100000
set_option maxHeartbeats 4000000
namespace K03
open PySem PySem.Spec PyProof.Rows L2 DL Evl
theorem flat_filter {α β : Type} (p : α → Bool) (q : β → Bool) (f : α → List β) (h : ∀ x, p x = false → ∀ y ∈ f x, q y = false) : ∀ l : List α, (l.filter p).flatMap (fun x => (f x).filter q) = (l.flatMap f).filter q
  | [] => rfl
  | x :: l => by
    have ih := flat_filter p q f h l
    rw [List.flatMap_cons, List.filter_append, ← ih, List.filter_cons]
    cases e : p x with
    | true => rw [if_pos rfl, List.flatMap_cons]
    | false =>
      rw [if_neg (by decide)]
      have : (f x).filter q = [] := List.filter_eq_nil_iff.mpr fun y hy => by rw [h x e y hy]; decide
      rw [this, List.nil_append]
/-- the forms are the words with no left side in them -/
theorem lays_eq {ls : List Str} {rs : List Ru} (h0 : hasL rs ("" : Str) = false) (hm : ∀ x l, hasL rs x = true → hasL rs (x ++ l) = true) : ∀ t, lays ls rs t = (allW ls t).filter fun x => !hasL rs x
  | 0 => by
    show [("" : Str)] = [("" : Str)].filter _
    rw [List.filter_cons, h0]; rfl
  | t + 1 => by
    show (lays ls rs t).flatMap (stepW ls rs) = ((allW ls t).flatMap fun x => ls.map fun l => x ++ l).filter _
    rw [lays_eq h0 hm t, ← flat_filter (fun x => !hasL rs x) (fun x => !hasL rs x) (fun x => ls.map fun l => x ++ l) (fun x hx y hy => by
      obtain ⟨l, _, rfl⟩ := List.mem_map.mp hy
      rw [hm x l (by simpa using hx)]; rfl)]
    refine congrArg (fun f => List.flatMap f (List.filter (fun x => !hasL rs x) (allW ls t))) (funext fun x => ?_)
    unfold stepW
    rw [List.filter_map]
    rfl
theorem forms_eq {ls : List Str} {rs : List Ru} (h0 : hasL rs ("" : Str) = false) (hm : ∀ x l, hasL rs x = true → hasL rs (x ++ l) = true) : ∀ t, formsF ls rs t = (wordsF ls t).filter fun x => !hasL rs x
  | 0 => lays_eq (ls := ls) h0 hm 0
  | t + 1 => by
    show formsF ls rs t ++ lays ls rs (t + 1) = (wordsF ls t ++ allW ls (t + 1)).filter _
    rw [List.filter_append, forms_eq h0 hm t, lays_eq h0 hm (t + 1)]
theorem occ_mono {y x l : Str} (h : occ y x = true) : occ y (x ++ l) = true := by
  obtain ⟨i, h1, h2⟩ := (StrLaws.found_iff x y).mp h
  refine (StrLaws.found_iff (x ++ l) y).mpr ⟨i, by rw [str_len_app]; omega, ?_⟩
  rw [StrLaws.subAt_eq] at h2 ⊢
  have e : (x ++ l).cps.toList = x.cps.toList ++ l.cps.toList := by
    show (x.cps ++ l.cps).toList = _
    rw [Array.toList_append]
  have hx : x.cps.toList.length = x.length := Array.length_toList
  rw [e, List.drop_append_of_le_length (by omega), List.take_append_of_le_length (by rw [List.length_drop]; omega)]
  exact h2
theorem occ_nil {y : Str} (h : 1 ≤ y.length) : occ y ("" : Str) = false := by
  cases e : occ y ("" : Str) with
  | false => rfl
  | true =>
    obtain ⟨i, h1, _⟩ := (StrLaws.found_iff ("" : Str) y).mp e
    have : ("" : Str).length = 0 := rfl
    omega
theorem hasL_mono {rs : List Ru} {x l : Str} (h : hasL rs x = true) : hasL rs (x ++ l) = true := by
  unfold hasL at h ⊢
  obtain ⟨p, hp, h⟩ := List.any_eq_true.mp h
  exact List.any_eq_true.mpr ⟨p, hp, occ_mono h⟩
theorem hasL_nil {ls : List Str} {rs : List Ru} (h : ∀ p ∈ rs, RuOk ls p) : hasL rs ("" : Str) = false := by
  unfold hasL
  rw [List.any_eq_false]
  intro p hp
  have := (h p hp).2.2.2.2.2.2
  rw [occ_nil (by omega)]
  decide
/-- what the program's forms answer is what the law's own count of words gives -/
theorem forms_law {ls : List Str} {rs : List Ru} (h : ∀ p ∈ rs, RuOk ls p) (t : Nat) : formsF ls rs t = (wordsF ls t).filter fun x => !hasL rs x :=
  forms_eq (hasL_nil h) (fun _ _ => hasL_mono) t
end K03

set_option Elab.async false
set_option linter.all false
set_option maxRecDepth 100000
set_option maxHeartbeats 4000000
namespace K03
open PySem PySem.Spec PyProof.Rows L2 DL Evl
/-- what is found in a part of a text is found in the text -/
theorem occ_part {y x z : Str} {i m : Nat} (h : z.cps.toList = (x.cps.toList.drop i).take m) (ho : occ y z = true) : occ y x = true := by
  obtain ⟨j, h1, h2⟩ := (StrLaws.found_iff z y).mp ho
  have hzl : z.cps.toList.length = z.length := Array.length_toList
  have hxl : x.cps.toList.length = x.length := Array.length_toList
  have hlen : z.length ≤ m ∧ z.length ≤ x.length - i := by
    rw [← hzl, h, List.length_take, List.length_drop, hxl]
    omega
  rw [StrLaws.subAt_eq, h, List.drop_take, List.take_take, List.drop_drop, Nat.min_eq_left (by omega)] at h2
  by_cases q : y.length = 0
  · refine (StrLaws.found_iff x y).mpr ⟨0, by omega, ?_⟩
    rw [StrLaws.subAt_eq, q]
    rw [q] at h2
    simpa using h2
  · refine (StrLaws.found_iff x y).mpr ⟨i + j, by omega, ?_⟩
    rw [StrLaws.subAt_eq]
    exact h2
theorem hasL_part {rs : List Ru} {x z : Str} {i m : Nat} (h : z.cps.toList = (x.cps.toList.drop i).take m) (hx : hasL rs x = false) : hasL rs z = false := by
  cases e : hasL rs z with
  | false => rfl
  | true =>
    unfold hasL at e hx
    obtain ⟨p, hp, e⟩ := List.any_eq_true.mp e
    rw [List.any_eq_false] at hx
    exact absurd (occ_part h e) (hx p hp)
theorem part_mem {x z : Str} {i m : Nat} (h : z.cps.toList = (x.cps.toList.drop i).take m) {c : Nat} (hc : c ∈ z.cps.toList) : c ∈ x.cps.toList := by
  rw [h] at hc
  exact List.mem_of_mem_drop (List.mem_of_mem_take hc)
theorem part_len {x z : Str} {i m : Nat} (h : z.cps.toList = (x.cps.toList.drop i).take m) : z.length ≤ x.length := by
  have h1 : z.cps.toList.length = z.length := Array.length_toList
  have h2 : x.cps.toList.length = x.length := Array.length_toList
  rw [← h1, h, List.length_take, List.length_drop, h2]
  omega
theorem ofL_part {ls : List Str} {x z : Str} {i m : Nat} (h : z.cps.toList = (x.cps.toList.drop i).take m) (hx : ofL ls x = true) : ofL ls z = true := by
  unfold ofL at hx ⊢
  rw [List.all_eq_true] at hx ⊢
  exact fun c hc => hx c (part_mem h hc)
theorem txtOk_part {x z : Str} {i m : Nat} (h : z.cps.toList = (x.cps.toList.drop i).take m) (hx : txtOk x = true) : txtOk z = true := by
  have h1 := part_len h
  have h2 := txtOk_len hx
  unfold txtOk
  rw [decide_eq_true (by omega), Bool.and_true]
  show z.cps.all (· < 0x110000) = true
  rw [← Array.all_toList, List.all_eq_true]
  exact fun c hc => decide_eq_true (lay_mem (txtOk_lay hx) (part_mem h hc))
theorem cutS_part (x : Str) (lo hi : Option Int) : ∃ i m, (cutS x lo hi).cps.toList = (x.cps.toList.drop i).take m := ⟨_, _, rfl⟩
end K03

set_option Elab.async false
set_option linter.all false
set_option maxRecDepth 100000
set_option maxHeartbeats 4000000
namespace K03
open PySem PySem.Spec PyProof.Rows L2 DL Evl
/-- a text of the letters that can be laid -/
def LayW (ls : List Str) (x : Str) : Prop := ∀ c ∈ x.cps.toList, sg c ∈ ls ∧ c < 0x110000
theorem LayW.of {ls : List Str} {x : Str} (h : LayW ls x) : ofL ls x = true := by
  unfold ofL
  rw [List.all_eq_true]
  exact fun c hc => decide_eq_true (h c hc).1
theorem LayW.ok {ls : List Str} {x : Str} (h : LayW ls x) (hl : x.length ≤ 100000) : txtOk x = true := by
  unfold txtOk
  rw [decide_eq_true hl, Bool.and_true]
  show x.cps.all (· < 0x110000) = true
  rw [← Array.all_toList, List.all_eq_true]
  exact fun c hc => decide_eq_true (h c hc).2
theorem LayW.nil (ls : List Str) : LayW ls ("" : Str) := fun c hc => absurd hc (by simp [show ("" : Str).cps.toList = [] from rfl])
theorem LayW.one {ls : List Str} {l : Str} (h : l ∈ ls) (hs : isSm l) : LayW ls l := by
  obtain ⟨c, rfl, hc⟩ := sm_lt hs
  intro d hd
  have : d = c := by simpa using hd
  subst this
  exact ⟨h, hc⟩
theorem LayW.app {ls : List Str} {x y : Str} (h : LayW ls x) (h2 : LayW ls y) : LayW ls (x ++ y) := fun c hc => by
  have e : (x ++ y).cps.toList = x.cps.toList ++ y.cps.toList := by
    show (x.cps ++ y.cps).toList = _
    rw [Array.toList_append]
  rw [e] at hc
  rcases List.mem_append.mp hc with hc | hc
  · exact h c hc
  · exact h2 c hc
theorem LayW.part {ls : List Str} {x z : Str} {i m : Nat} (h : LayW ls x) (e : z.cps.toList = (x.cps.toList.drop i).take m) : LayW ls z := fun c hc => h c (part_mem e hc)
theorem LayW.rep {ls : List Str} {x : Str} (h : LayW ls x) (m : Nat) : LayW ls (strRep x m) := fun c hc => by
  have e : (strRep x m).cps.toList = (List.replicate m x.cps.toList).flatten := rfl
  rw [e] at hc
  obtain ⟨l, hl, hc⟩ := List.mem_flatten.mp hc
  rw [List.eq_of_mem_replicate hl] at hc
  exact h c hc
theorem LayW.join {ls ys : List Str} (h : ∀ y ∈ ys, LayW ls y) : LayW ls (Str.join ("" : Str) ys) := fun c hc => by
  rw [join_cps] at hc
  obtain ⟨y, hy, hc⟩ := List.mem_flatMap.mp hc
  exact h y hy c hc
theorem RuOk.of {ls : List Str} {p : Ru} (h1 : LayW ls p.1) (h2 : LayW ls p.2) (l1 : p.1.length ≤ 6) (l2 : p.2.length ≤ 1) (l3 : p.2.length < p.1.length) : RuOk ls p :=
  ⟨h1.ok (by omega), h2.ok (by omega), h1.of, h2.of, l1, l2, l3⟩
theorem RsOk.perm {ls : List Str} {a b : List Ru} (h : RsOk ls b) (p : a.Perm b) : RsOk ls a :=
  ⟨by rw [p.length_eq]; exact h.1, p.nodup_iff.mpr h.2.1, fun x hx => h.2.2 x (p.mem_iff.mp hx)⟩
end K03

set_option Elab.async false
set_option linter.all false
set_option maxRecDepth 100000
set_option maxHeartbeats 4000000
namespace K03
open PySem PySem.Spec PyProof.Rows L2 DL Evl
local macro_rules
| `(tactic| infer_instance) => `(tactic| first
  | (with_reducible show ∃ _, OT.frz _ = _ ∧ _
     refine ⟨_, rfl, ?_⟩)
  | (with_reducible show ∃ _, OT.d (OT.frz _) = _ ∧ _
     refine ⟨_, rfl, ?_⟩)
  | (with_reducible show HSs _ _ _ _ _
     first | refine hss_nil ?_ | refine hss_one ?_ | refine hss_cons ?_)
  | (with_reducible show HS _ _ _ _ _
     first
     | refine hs_ret ?_ | refine hs_if ?_ | refine hs_expr ?_ | refine hs_retN ?_ | refine hs_pass ?_ | refine hs_break ?_ | refine hs_continue ?_
     | refine hs_set 0 ?_ (by assumption) rfl (by first | exact .inl rfl | exact .inr rfl)
     | refine hs_set 1 ?_ (by assumption) rfl (by first | exact .inl rfl | exact .inr rfl)
     | refine hs_set 2 ?_ (by assumption) rfl (by first | exact .inl rfl | exact .inr rfl)
     | refine hs_set 3 ?_ (by assumption) rfl (by first | exact .inl rfl | exact .inr rfl)
     | refine hs_set 4 ?_ (by assumption) rfl (by first | exact .inl rfl | exact .inr rfl)
     | refine hs_set 5 ?_ (by assumption) rfl (by first | exact .inl rfl | exact .inr rfl)
     | refine hs_set 6 ?_ (by assumption) rfl (by first | exact .inl rfl | exact .inr rfl)
     | refine hs_set 7 ?_ (by assumption) rfl (by first | exact .inl rfl | exact .inr rfl)
     | refine hs_set 8 ?_ (by assumption) rfl (by first | exact .inl rfl | exact .inr rfl)
     | refine hs_set 9 ?_ (by assumption) rfl (by first | exact .inl rfl | exact .inr rfl)
     | refine hs_set 10 ?_ (by assumption) rfl (by first | exact .inl rfl | exact .inr rfl)
     | refine hs_set 11 ?_ (by assumption) rfl (by first | exact .inl rfl | exact .inr rfl)
     | refine hs_set 12 ?_ (by assumption) rfl (by first | exact .inl rfl | exact .inr rfl)
     | refine hs_set 13 ?_ (by assumption) rfl (by first | exact .inl rfl | exact .inr rfl)
     | refine hs_set 14 ?_ (by assumption) rfl (by first | exact .inl rfl | exact .inr rfl))
  | (with_reducible show HE _ (.Name _ _) _ _ _
     first
     | refine he_v 0 rfl rfl ?_ | refine he_v 1 rfl rfl ?_ | refine he_v 2 rfl rfl ?_ | refine he_v 3 rfl rfl ?_ | refine he_v 4 rfl rfl ?_
     | refine he_v 5 rfl rfl ?_ | refine he_v 6 rfl rfl ?_ | refine he_v 7 rfl rfl ?_ | refine he_v 8 rfl rfl ?_ | refine he_v 9 rfl rfl ?_
     | refine he_v 10 rfl rfl ?_ | refine he_v 11 rfl rfl ?_ | refine he_v 12 rfl rfl ?_ | refine he_v 13 rfl rfl ?_ | refine he_v 14 rfl rfl ?_
     | refine he_gint (by assumption) rfl ?_ | refine he_gstr (by assumption) rfl ?_)
  | (with_reducible show HE _ (.Constant _ _ _) _ _ _
     first | refine he_int ?_ | refine he_str ?_ | refine he_bl ?_ | refine he_non ?_)
  | (with_reducible show HE _ (.Call (.Name _ _) _ _ _) _ _ _
     first
     | refine he_c1 (by assumption) (by assumption) rfl ?_
     | refine he_c2 (by assumption) (by assumption) rfl ?_
     | refine he_c3 (by assumption) (by assumption) rfl ?_
     | refine he_isRow (by assumption) (by assumption) (by assumption) ?_
     | refine he_isi isInt T_isInt b_int (by assumption) (by assumption) ?_
     | refine he_isi isBl T_isBl b_bool (by assumption) (by assumption) ?_
     | refine he_isi isStr T_isStr b_str (by assumption) (by assumption) ?_
     | refine he_isi isLst T_isLst b_list (by assumption) (by assumption) ?_
     | refine he_isi isTup T_isTup b_tuple (by assumption) (by assumption) ?_
     | refine he_isi isDct T_isDct b_dict (by assumption) (by assumption) ?_
     | refine he_f1 b_len (by assumption) ?_
     | refine he_f1 b_all (by assumption) ?_
     | refine he_f1 b_any (by assumption) ?_
     | refine he_f1 b_sorted (by assumption) ?_
     | refine he_t1 b_list (by assumption) ?_
     | refine he_t1 b_tuple (by assumption) ?_
     | refine he_t1 b_int (by assumption) ?_
     | refine he_t1 b_str (by assumption) ?_)
  | (with_reducible show HE _ (.BinOp _ _ _ _) _ _ _
     refine he_bin ?_)
  | (with_reducible show HE _ (.Compare _ _ _ _) _ _ _
     first | refine he_cmp ?_ | refine he_chain ?_)
  | (with_reducible show HE _ (.UnaryOp _ _ _) _ _ _
     first | refine he_not ?_ | refine he_neg (i := 0) ?_)
  | (with_reducible show HE _ (.IfExp _ _ _ _) _ _ _
     refine he_if ?_)
  | (with_reducible show HE _ (.Subscript _ _ _) _ _ _
     first | refine he_sl ?_ | refine he_ix ?_)
  | (with_reducible show HE _ (.Tuple _ _ _) _ _ _
     refine he_frz (he_tup ?_))
  | (with_reducible show HE _ (.List _ _) _ _ _
     refine he_list ?_)
  | (with_reducible show HE _ (.BoolOp _ _ _) _ _ _
     first | refine he_one ?_ | refine he_and ?_ | refine he_or ?_)
  | (with_reducible show HE _ (.Dict [] [] _) _ _ _
     refine he_dct0 ?_)
  | (with_reducible show HE _ (.Call (.Attribute _ _ _) _ _ _) _ _ _
     first | refine he_join ?_ | refine he_starts3 ?_)
  | (with_reducible show HE _ (.Attribute _ _ _) _ _ _
     refine he_fld ?_)
  | (with_reducible show ∃ _ _ _ _, OT.frz _ = _ ∧ Cls _ _ ∧ _
     refine ⟨_, _, _, _, rfl, by assumption, by assumption, rfl, ?_⟩)
  | (with_reducible show ∃ _ _, [OT.frz _, OT.frz _] = [OT.frz (.str _), OT.frz (.int _)] ∧ _
     refine ⟨_, _, rfl, ?_⟩)
  | (with_reducible show HT _ (.Name _ _) _ _ _
     refine ht_bl ?_
     infer_instance
     with_reducible refine ⟨_, rfl, ?_⟩)
  | (with_reducible show HT _ (.Call _ _ _ _) _ _ _
     refine ht_bl ?_)
  | (with_reducible show HT _ _ _ _ _
     first
     | refine ht_not ?_ | refine ht_cmp ?_ | refine ht_chain ?_ | (refine ht_w ?_; first | refine hw_and ?_ | refine hw_or ?_))
  | (with_reducible show HW _ _ _ _ _
     first | refine hw_and1 ?_ | refine hw_or1 ?_ | refine hw_and ?_ | refine hw_or ?_)
  | (with_reducible show HA _ _ _ _ _
     first | refine ha_nil ?_ | refine ha_cons ?_)
  | (with_reducible show HO2 _ (cB _ .Add) _ _ _ _ _
     first | refine o_add ?_ | refine o_cat (by first | assumption | omega) ?_ | refine o_catO rfl rfl (by first | assumption | omega) ?_)
  | (with_reducible show HO2 _ (cB _ .Sub) _ _ _ _ _
     first | refine o_sub ?_)
  | (with_reducible show HO2 _ (cC _ .Eq) _ _ _ _ _
     first | refine o_eqI ?_ | refine o_eqS ?_ | refine o_eqB ?_)
  | (with_reducible show HO2 _ (cC _ .NotEq) _ _ _ _ _
     first | refine o_neI ?_ | refine o_neS ?_ | refine o_neB ?_)
  | (with_reducible show HO2 _ (cC _ .Lt) _ _ _ _ _
     first | refine o_lt ?_)
  | (with_reducible show HO2 _ (cC _ .LtE) _ _ _ _ _
     first | refine o_le ?_)
  | (with_reducible show HO2 _ (cC _ .Gt) _ _ _ _ _
     first | refine o_gt ?_)
  | (with_reducible show HO2 _ (cC _ .GtE) _ _ _ _ _
     first | refine o_ge ?_)
  | (with_reducible show HO2 _ (cC _ .Is) _ _ _ _ _
     first | refine o_isN ?_)
  | (with_reducible show HO2 _ (cC _ .IsNot) _ _ _ _ _
     first | refine o_notN ?_)
  | (with_reducible show HO2 _ (cC _ .In) _ _ _ _ _
     first | refine o_inS ?_)
  | (with_reducible show HO2 _ (cC _ .NotIn) _ _ _ _ _
     first | refine o_ninS ?_)
  | (with_reducible show HO2 _ (cX _) _ _ _ _ _
     first | refine o_ixL (by first | assumption | rfl) ?_ | refine o_ixT (by first | assumption | rfl) ?_)
  | (with_reducible show HF _ _ _ _ _ _
     first
     | refine hf_lenL ?_ | refine hf_lenT ?_ | refine hf_lenS ⟨by first | assumption | omega, ?_⟩ | refine hf_listL ?_ | refine hf_listT ?_ | refine hf_tupL ?_ | refine hf_tupT ?_ | refine hf_int ?_ | refine hf_intB ?_ | refine hf_strS ?_)
  | (with_reducible show HPo _ _ _ _ _
     first | refine hp_none ?_ | refine hp_some ?_)
  | (with_reducible show HSl _ _ _ _ _ _ _
     first | refine sl_L ?_ | refine sl_S (by first | assumption | omega) ?_)
  | (with_reducible show HGs _ _ _ _ _ _
     first | refine hgs_nil ?_ | refine hgs_cons ?_)
  | (with_reducible show HG _ _ _ _ _ _
     first | refine hg_name _ ⟨Nat.le_of_ble_eq_true rfl, by first | exact pinP _ _ _ | rfl, ?_⟩ | refine hg_tup rfl ?_)
  | (with_reducible show HEb _ _ _ _ _ _
     intro _ _ _ _ _)
  | (with_reducible show HTb _ _ _ _ _ _
     intro _ _ _ _ _)
  | (with_reducible show _ < _ ∧ _ = none ∧ _
     refine ⟨Nat.le_of_ble_eq_true rfl, by first | exact pinP _ _ _ | rfl, ?_⟩)
  | (with_reducible show _ ≤ 100000 ∧ _
     refine ⟨Nat.le_of_ble_eq_true rfl, ?_⟩)
  | (with_reducible show ite (true = true) _ _
     rw [if_pos rfl])
  | (with_reducible show ite (false = true) _ _
     rw [if_neg Bool.false_ne_true])
  | (with_reducible show ite ((!true) = true) _ _
     rw [Bool.not_true, if_neg Bool.false_ne_true])
  | (with_reducible show ite ((!false) = true) _ _
     rw [Bool.not_false, if_pos rfl]))
/-! ### steps -/
/-- l stands in w at a place -/
def pre (w l : Str) (at_ : Nat) : Bool := (w.cps.toList.drop at_).take l.length == l.cps.toList
theorem pre_len {w l : Str} {i : Nat} (h : pre w l i = true) (hl : 1 ≤ l.length) : i + l.length ≤ w.length := by
  have h := eq_of_beq h
  have h1 : l.cps.toList.length = l.length := Array.length_toList
  have h2 : w.cps.toList.length = w.length := Array.length_toList
  have h3 := congrArg List.length h
  rw [List.length_take, List.length_drop, h1, h2] at h3
  omega
theorem starts3_pre {w l : Str} {i : Nat} (h : i ≤ w.length) : Txt.startswith3 w l (i : Int) = pre w l i := by
  have h1 : l.cps.toList.length = l.length := Array.length_toList
  have h2 : w.cps.toList.length = w.length := Array.length_toList
  have e : fromIndex w.length (i : Int) = i := by
    unfold fromIndex
    rw [if_neg (by omega)]
    omega
  unfold Txt.startswith3 pre
  rw [e, StrLaws.subAt_eq]
  by_cases q : i + l.length ≤ w.length
  · rw [decide_eq_true q, Bool.true_and]
  · rw [decide_eq_false q, Bool.false_and]
    symm
    rw [beq_eq_false_iff_ne]
    intro z
    have h3 := congrArg List.length z
    rw [List.length_take, List.length_drop, h1, h2] at h3
    by_cases q2 : l.length = 0
    · omega
    · omega
def stepsAt (w : Str) (nu : Nat) (l : Str) (m : Nat) : List (Nat × Nat) := ((List.range m).filter (pre w l)).map fun i => (nu, i)
/-- all steps of a word, ascending -/
def kst (rs : List Ru) (w : Str) : List (Nat × Nat) := rs.zipIdx.flatMap fun p => stepsAt w p.2 p.1.1 w.length
abbrev spD (p : Nat × Nat) : D := .tup [.int (p.1 : Int), .int (p.2 : Int)]
abbrev stepsO (l : List (Nat × Nat)) : OT := .ol ((l.map spD).map .frz)
theorem range_filter {p : Nat → Bool} {a : Nat} : ∀ {b : Nat}, a ≤ b → (∀ i, a ≤ i → i < b → p i = false) → (List.range b).filter p = (List.range a).filter p
  | 0, h, _ => by
    have : a = 0 := by omega
    rw [this]
  | b + 1, h, hp => by
    by_cases q : a = b + 1
    · rw [q]
    · rw [List.range_succ, List.filter_append, range_filter (b := b) (by omega) fun i h1 h2 => hp i h1 (by omega), List.filter_cons, hp b (by omega) (by omega)]
      simp
theorem stepsAt_short {w l : Str} {nu : Nat} (hl : 1 ≤ l.length) : stepsAt w nu l ((w.length : Int) - (l.length : Int) + 1).toNat = stepsAt w nu l w.length := by
  unfold stepsAt
  rw [range_filter (a := ((w.length : Int) - (l.length : Int) + 1).toNat) (b := w.length) (by omega) fun i h1 h2 => ?_]
  cases e : pre w l i with
  | false => rfl
  | true =>
    have := pre_len e hl
    omega
theorem stepsAt_len (w : Str) (nu : Nat) (l : Str) (m : Nat) : (stepsAt w nu l m).length ≤ m := by
  unfold stepsAt
  rw [List.length_map]
  exact Nat.le_trans (List.length_filter_le _ _) (by rw [List.length_range]; exact Nat.le_refl _)
def kstI (rs : List Ru) (w : Str) (i : Nat) : List (Nat × Nat) := (rs.zipIdx.take i).flatMap fun p => stepsAt w p.2 p.1.1 w.length
theorem kstI_len (rs : List Ru) (w : Str) (i : Nat) : (kstI rs w i).length ≤ rs.length * w.length := by
  unfold kstI
  refine Nat.le_trans (flat_len (fun (p : Ru × Nat) => stepsAt_len w p.2 p.1.1 w.length) _) ?_
  rw [List.length_take, List.length_zipIdx]
  exact Nat.mul_le_mul_right _ (by omega)
theorem kstI_succ {rs : List Ru} {w : Str} {i : Nat} {p : Ru} (h : rs[i]? = some p) : kstI rs w (i + 1) = kstI rs w i ++ stepsAt w i p.1 w.length := by
  unfold kstI
  rw [List.take_succ, List.getElem?_zipIdx, h]
  show List.flatMap _ (_ ++ [(p, 0 + i)]) = _
  rw [List.flatMap_append, List.flatMap_cons, List.flatMap_nil, List.append_nil, Nat.zero_add]
theorem kst_all (rs : List Ru) (w : Str) : kstI rs w rs.length = kst rs w := by
  unfold kstI kst
  rw [← List.length_zipIdx (l := rs) (i := 0), List.take_length]
theorem comp_steps (w l : Str) (nu m : Nat) (p : D → Bool) (hp : ∀ i : Nat, i < m → p (.int (i : Int)) = pre w l i) : ((((List.range m).map fun i : Nat => D.int (i : Int)).filter p).map fun d => OT.frz (.tup [.int (nu : Int), d])) = ((stepsAt w nu l m).map spD).map .frz := by
  unfold stepsAt
  rw [List.filter_map, List.map_map, List.map_map, List.map_map]
  have : (List.range m).filter (p ∘ fun i : Nat => D.int (i : Int)) = (List.range m).filter (pre w l) := List.filter_congr fun i hi => hp i (List.mem_range.mp hi)
  rw [this]
  rfl
section
variable {P : Program} {w : World} {K : PySem.W.Frag} {mg : Str → Option Value} {base : Heap} {st cs : Addr} {T : List (Addr × Str)} {C CE CW : Addr}
def sp_steps_of (C : Addr) : PSpec := fun ds n KP _ => ∃ ls rs x, ds = [ruleD C ls rs, .str x] ∧ rs.length ≤ 8 ∧ (∀ p ∈ rs, RuOk ls p) ∧ x.length ≤ 1000 ∧ KP n (stepsO (kst rs x))
abbrev Nso : List Str := ["rules", "word", "found", "number", "left", "right", "at"]
theorem sc_steps_of : FnScope Nso ["rules", "word"] (defScope (top 31)) := ⟨rfl, rfl, rfl, by decide +kernel, rfl, by decide +kernel, by decide +kernel⟩
def preD (w l : Str) : D → Bool
  | .int i => pre w l i.toNat
  | _ => false
theorem ok_steps_of (k : Nat) (d : Def1 K mg "steps_of" (top 31)) (c : RulesC K C) (m1 : mg "enumerate" = none) (m2 : mg "range" = none) (m3 : mg "len" = none) :
    OkF P w K mg base ⟨K, st, cs, T⟩ (k + 1) "steps_of" ["rules", "word"] (pureSp (sp_steps_of C)) := by
  refine fn_pure d sc_steps_of (fun f ds b n KP XP0 hr hl ⟨ls, rs, x, e, h8, hok, hx1, hk⟩ hx => ?_) fun _ _ _ _ _ _ us hl => match us, hl with | [_, _], _ => rfl
  subst e
  have nd := sc_steps_of.nd
  have hxs : x.length ≤ sizeLine := by show _ ≤ 16777216; omega
  repeat infer_instance
  refine hs_for (g := gTup K 2 (gCons (gName 3) (gCons (gTup K 2 (gCons (gName 4) (gCons (gName 5) gNil))) gNil))) (hi_enumL m1 ?_) (pg_tup rfl (pgs_cons (pg_name nd rfl (.inr rfl) (by first | exact .inl rfl | exact .inr rfl)) (pgs_cons (pg_tup rfl (pgs_cons (pg_name nd rfl (.inr rfl) (by first | exact .inl rfl | exact .inr rfl)) (pgs_cons (pg_name nd rfl (.inl rfl) (.inr rfl)) pgs_nil))) pgs_nil)))
  refine ha_cons (he_fld (he_v 0 rfl rfl ⟨C, _, _, _, rfl, c.c, c.h, rfl, ha_nil ⟨_, rfl, fun i n' Γ' => n' = n ∧ ∃ y z u, Γ' = [some (.frz (ruleD C ls rs)), some (.frz (.str x)), some (stepsO (kstI rs x i)), y, z, u, none], ⟨rfl, none, none, none, rfl⟩, ?_, ?_⟩⟩))
  · rintro i n' Γ' dd hdd ⟨rfl, y, z, u, rfl⟩
    obtain ⟨dp, hdp, rfl⟩ := enumD_at hdd
    rw [List.getElem?_map] at hdp
    obtain ⟨p, hp, rfl⟩ := Option.map_eq_some_iff.mp hdp
    have hpm := List.mem_of_getElem? hp
    have hru := hok p hpm
    have hps : p.1.length ≤ sizeLine := txtOk_line hru.1
    have hp1 : 1 ≤ p.1.length := by have := hru.2.2.2.2.2.2; omega
    repeat infer_instance
    refine he_extend 2 rfl ?_ rfl (.inl rfl)
    refine he_filter [("at", 6)] (gName 6) (preD x p.1) (fun d => .frz (.tup [.int (i : Int), d])) (hi_range1 m2 ?_) (blkOk_by (N := Nso) (sc := defScope (top 31)) (by decide +kernel)) nd (fun s H C cl fp => pg_name nd rfl (.inl rfl) (.inr rfl)) gi_name (fun i _ => pinP _ _ _)
    repeat infer_instance
    have hpl := hru.2.2.2.2.1
    refine ⟨_, rfl, by omega, by omega, by rw [List.length_map, List.length_range]; omega, rfl, fun dd hdd => ?_, ?_⟩
    · obtain ⟨a, ha, rfl⟩ := List.mem_map.mp hdd
      have ha := List.mem_range.mp ha
      repeat infer_instance
      rw [starts3_pre (by omega)]
      refine ⟨rfl, fun _ => ?_, fun _ => ⟨rfl, rfl⟩⟩
      repeat infer_instance
      exact ⟨rfl, rfl, rfl⟩
    · refine ⟨_, _, .inl rfl, rfl, ?_, rfl, some (.frz (.int (i : Int))), some (.frz (.str p.1)), some (.frz (.str p.2)), ?_⟩
      · rw [comp_steps x p.1 i _ (preD x p.1) (fun _ _ => rfl), List.length_map, List.length_map, List.length_map, List.length_map]
        have h1 := kstI_len rs x i
        have h2 := stepsAt_len x i p.1 ((x.length : Int) - (p.1.length : Int) + 1).toNat
        have h3 : rs.length * x.length ≤ 8 * 1000 := Nat.mul_le_mul h8 hx1
        omega
      · rw [comp_steps x p.1 i _ (preD x p.1) (fun _ _ => rfl), stepsAt_short hp1, kstI_succ hp, ← List.map_append, ← List.map_append]
        rfl
  · rintro n' Γ' ⟨rfl, y, z, u, rfl⟩
    refine hss_one (hs_ret (he_move 2 rfl (.inl rfl) rfl ?_))
    rw [enumD_len, List.length_map, kst_all]
    exact hk
end
end K03

set_option Elab.async false
set_option linter.all false
set_option maxRecDepth 100000
set_option maxHeartbeats 4000000
namespace K03
open PySem PySem.Spec PyProof.Rows L2 DL Evl
local macro_rules
| `(tactic| infer_instance) => `(tactic| first
  | (with_reducible show ∃ _, OT.frz _ = _ ∧ _
     refine ⟨_, rfl, ?_⟩)
  | (with_reducible show ∃ _, OT.d (OT.frz _) = _ ∧ _
     refine ⟨_, rfl, ?_⟩)
  | (with_reducible show HSs _ _ _ _ _
     first | refine hss_nil ?_ | refine hss_one ?_ | refine hss_cons ?_)
  | (with_reducible show HS _ _ _ _ _
     first
     | refine hs_ret ?_ | refine hs_if ?_ | refine hs_expr ?_ | refine hs_retN ?_ | refine hs_pass ?_ | refine hs_break ?_ | refine hs_continue ?_
     | refine hs_set 0 ?_ (by assumption) rfl (by first | exact .inl rfl | exact .inr rfl)
     | refine hs_set 1 ?_ (by assumption) rfl (by first | exact .inl rfl | exact .inr rfl)
     | refine hs_set 2 ?_ (by assumption) rfl (by first | exact .inl rfl | exact .inr rfl)
     | refine hs_set 3 ?_ (by assumption) rfl (by first | exact .inl rfl | exact .inr rfl)
     | refine hs_set 4 ?_ (by assumption) rfl (by first | exact .inl rfl | exact .inr rfl)
     | refine hs_set 5 ?_ (by assumption) rfl (by first | exact .inl rfl | exact .inr rfl)
     | refine hs_set 6 ?_ (by assumption) rfl (by first | exact .inl rfl | exact .inr rfl)
     | refine hs_set 7 ?_ (by assumption) rfl (by first | exact .inl rfl | exact .inr rfl)
     | refine hs_set 8 ?_ (by assumption) rfl (by first | exact .inl rfl | exact .inr rfl)
     | refine hs_set 9 ?_ (by assumption) rfl (by first | exact .inl rfl | exact .inr rfl)
     | refine hs_set 10 ?_ (by assumption) rfl (by first | exact .inl rfl | exact .inr rfl)
     | refine hs_set 11 ?_ (by assumption) rfl (by first | exact .inl rfl | exact .inr rfl)
     | refine hs_set 12 ?_ (by assumption) rfl (by first | exact .inl rfl | exact .inr rfl)
     | refine hs_set 13 ?_ (by assumption) rfl (by first | exact .inl rfl | exact .inr rfl)
     | refine hs_set 14 ?_ (by assumption) rfl (by first | exact .inl rfl | exact .inr rfl))
  | (with_reducible show HE _ (.Name _ _) _ _ _
     first
     | refine he_v 0 rfl rfl ?_ | refine he_v 1 rfl rfl ?_ | refine he_v 2 rfl rfl ?_ | refine he_v 3 rfl rfl ?_ | refine he_v 4 rfl rfl ?_
     | refine he_v 5 rfl rfl ?_ | refine he_v 6 rfl rfl ?_ | refine he_v 7 rfl rfl ?_ | refine he_v 8 rfl rfl ?_ | refine he_v 9 rfl rfl ?_
     | refine he_v 10 rfl rfl ?_ | refine he_v 11 rfl rfl ?_ | refine he_v 12 rfl rfl ?_ | refine he_v 13 rfl rfl ?_ | refine he_v 14 rfl rfl ?_
     | refine he_gint (by assumption) rfl ?_ | refine he_gstr (by assumption) rfl ?_)
  | (with_reducible show HE _ (.Constant _ _ _) _ _ _
     first | refine he_int ?_ | refine he_str ?_ | refine he_bl ?_ | refine he_non ?_)
  | (with_reducible show HE _ (.Call (.Name _ _) _ _ _) _ _ _
     first
     | refine he_c1 (by assumption) (by assumption) rfl ?_
     | refine he_c2 (by assumption) (by assumption) rfl ?_
     | refine he_c3 (by assumption) (by assumption) rfl ?_
     | refine he_isRow (by assumption) (by assumption) (by assumption) ?_
     | refine he_isi isInt T_isInt b_int (by assumption) (by assumption) ?_
     | refine he_isi isBl T_isBl b_bool (by assumption) (by assumption) ?_
     | refine he_isi isStr T_isStr b_str (by assumption) (by assumption) ?_
     | refine he_isi isLst T_isLst b_list (by assumption) (by assumption) ?_
     | refine he_isi isTup T_isTup b_tuple (by assumption) (by assumption) ?_
     | refine he_isi isDct T_isDct b_dict (by assumption) (by assumption) ?_
     | refine he_f1 b_len (by assumption) ?_
     | refine he_f1 b_all (by assumption) ?_
     | refine he_f1 b_any (by assumption) ?_
     | refine he_f1 b_sorted (by assumption) ?_
     | refine he_t1 b_list (by assumption) ?_
     | refine he_t1 b_tuple (by assumption) ?_
     | refine he_t1 b_int (by assumption) ?_
     | refine he_t1 b_str (by assumption) ?_)
  | (with_reducible show HE _ (.BinOp _ _ _ _) _ _ _
     refine he_bin ?_)
  | (with_reducible show HE _ (.Compare _ _ _ _) _ _ _
     first | refine he_cmp ?_ | refine he_chain ?_)
  | (with_reducible show HE _ (.UnaryOp _ _ _) _ _ _
     first | refine he_not ?_ | refine he_neg (i := 0) ?_)
  | (with_reducible show HE _ (.IfExp _ _ _ _) _ _ _
     refine he_if ?_)
  | (with_reducible show HE _ (.Subscript _ _ _) _ _ _
     first | refine he_sl ?_ | refine he_ix ?_)
  | (with_reducible show HE _ (.Tuple _ _ _) _ _ _
     refine he_frz (he_tup ?_))
  | (with_reducible show HE _ (.List _ _) _ _ _
     refine he_list ?_)
  | (with_reducible show HE _ (.BoolOp _ _ _) _ _ _
     first | refine he_one ?_ | refine he_and ?_ | refine he_or ?_)
  | (with_reducible show HE _ (.Dict [] [] _) _ _ _
     refine he_dct0 ?_)
  | (with_reducible show HE _ (.Call (.Attribute _ _ _) _ _ _) _ _ _
     first | refine he_join ?_ | refine he_starts3 ?_)
  | (with_reducible show HE _ (.Attribute _ _ _) _ _ _
     refine he_fld ?_)
  | (with_reducible show ∃ _ _ _ _, OT.frz _ = _ ∧ Cls _ _ ∧ _
     refine ⟨_, _, _, _, rfl, by assumption, by assumption, rfl, ?_⟩)
  | (with_reducible show ∃ _ _, [OT.frz _, OT.frz _] = [OT.frz (.str _), OT.frz (.int _)] ∧ _
     refine ⟨_, _, rfl, ?_⟩)
  | (with_reducible show HT _ (.Name _ _) _ _ _
     refine ht_bl ?_
     infer_instance
     with_reducible refine ⟨_, rfl, ?_⟩)
  | (with_reducible show HT _ (.Call _ _ _ _) _ _ _
     refine ht_bl ?_)
  | (with_reducible show HT _ _ _ _ _
     first
     | refine ht_not ?_ | refine ht_cmp ?_ | refine ht_chain ?_ | (refine ht_w ?_; first | refine hw_and ?_ | refine hw_or ?_))
  | (with_reducible show HW _ _ _ _ _
     first | refine hw_and1 ?_ | refine hw_or1 ?_ | refine hw_and ?_ | refine hw_or ?_)
  | (with_reducible show HA _ _ _ _ _
     first | refine ha_nil ?_ | refine ha_cons ?_)
  | (with_reducible show HO2 _ (cB _ .Add) _ _ _ _ _
     first | refine o_add ?_ | refine o_cat (by first | assumption | omega) ?_ | refine o_catO rfl rfl (by first | assumption | omega) ?_)
  | (with_reducible show HO2 _ (cB _ .Sub) _ _ _ _ _
     first | refine o_sub ?_)
  | (with_reducible show HO2 _ (cC _ .Eq) _ _ _ _ _
     first | refine o_eqI ?_ | refine o_eqS ?_ | refine o_eqB ?_)
  | (with_reducible show HO2 _ (cC _ .NotEq) _ _ _ _ _
     first | refine o_neI ?_ | refine o_neS ?_ | refine o_neB ?_)
  | (with_reducible show HO2 _ (cC _ .Lt) _ _ _ _ _
     first | refine o_lt ?_)
  | (with_reducible show HO2 _ (cC _ .LtE) _ _ _ _ _
     first | refine o_le ?_)
  | (with_reducible show HO2 _ (cC _ .Gt) _ _ _ _ _
     first | refine o_gt ?_)
  | (with_reducible show HO2 _ (cC _ .GtE) _ _ _ _ _
     first | refine o_ge ?_)
  | (with_reducible show HO2 _ (cC _ .Is) _ _ _ _ _
     first | refine o_isN ?_)
  | (with_reducible show HO2 _ (cC _ .IsNot) _ _ _ _ _
     first | refine o_notN ?_)
  | (with_reducible show HO2 _ (cC _ .In) _ _ _ _ _
     first | refine o_inS ?_)
  | (with_reducible show HO2 _ (cC _ .NotIn) _ _ _ _ _
     first | refine o_ninS ?_)
  | (with_reducible show HO2 _ (cX _) _ _ _ _ _
     first | refine o_ixL (by first | assumption | rfl) ?_ | refine o_ixT (by first | assumption | rfl) ?_)
  | (with_reducible show HF _ _ _ _ _ _
     first
     | refine hf_lenL ?_ | refine hf_lenT ?_ | refine hf_lenS ⟨by first | assumption | omega, ?_⟩ | refine hf_listL ?_ | refine hf_listT ?_ | refine hf_tupL ?_ | refine hf_tupT ?_ | refine hf_int ?_ | refine hf_intB ?_ | refine hf_strS ?_)
  | (with_reducible show HPo _ _ _ _ _
     first | refine hp_none ?_ | refine hp_some ?_)
  | (with_reducible show HSl _ _ _ _ _ _ _
     first | refine sl_L ?_ | refine sl_S (by first | assumption | omega) ?_)
  | (with_reducible show HGs _ _ _ _ _ _
     first | refine hgs_nil ?_ | refine hgs_cons ?_)
  | (with_reducible show HG _ _ _ _ _ _
     first | refine hg_name _ ⟨Nat.le_of_ble_eq_true rfl, by first | exact pinP _ _ _ | rfl, ?_⟩ | refine hg_tup rfl ?_)
  | (with_reducible show HEb _ _ _ _ _ _
     intro _ _ _ _ _)
  | (with_reducible show HTb _ _ _ _ _ _
     intro _ _ _ _ _)
  | (with_reducible show _ < _ ∧ _ = none ∧ _
     refine ⟨Nat.le_of_ble_eq_true rfl, by first | exact pinP _ _ _ | rfl, ?_⟩)
  | (with_reducible show _ ≤ 100000 ∧ _
     refine ⟨Nat.le_of_ble_eq_true rfl, ?_⟩)
  | (with_reducible show ite (true = true) _ _
     rw [if_pos rfl])
  | (with_reducible show ite (false = true) _ _
     rw [if_neg Bool.false_ne_true])
  | (with_reducible show ite ((!true) = true) _ _
     rw [Bool.not_true, if_neg Bool.false_ne_true])
  | (with_reducible show ite ((!false) = true) _ _
     rw [Bool.not_false, if_pos rfl]))
def doneP (p : Ru) (w : Str) (i : Nat) : Str := (cutS w none (some (i : Int)) ++ p.2) ++ cutS w (some ((i : Int) + (p.1.length : Int))) none
/-- the word behind a step -/
def doneR (rs : List Ru) (w : Str) (s : Nat × Nat) : Str := match rs[s.1]? with
  | some p => doneP p w s.2
  | none => w
theorem kst_mem {rs : List Ru} {w : Str} {s : Nat × Nat} : s ∈ kst rs w ↔ ∃ p, rs[s.1]? = some p ∧ s.2 < w.length ∧ pre w p.1 s.2 = true := by
  unfold kst
  rw [List.mem_flatMap]
  constructor
  · rintro ⟨⟨p, i⟩, h1, h2⟩
    unfold stepsAt at h2
    obtain ⟨a, ha, rfl⟩ := List.mem_map.mp h2
    obtain ⟨h3, h4⟩ := List.mem_filter.mp ha
    refine ⟨p, ?_, List.mem_range.mp h3, h4⟩
    have := List.mem_zipIdx_iff_getElem?.mp h1
    simpa using this
  · rintro ⟨p, h1, h2, h3⟩
    refine ⟨(p, s.1), List.mem_zipIdx_iff_getElem?.mpr (by simpa using h1), ?_⟩
    unfold stepsAt
    exact List.mem_map.mpr ⟨s.2, List.mem_filter.mpr ⟨List.mem_range.mpr h2, h3⟩, rfl⟩
theorem cutS_len_take (w : Str) (i : Nat) (h : i ≤ w.length) : (cutS w none (some (i : Int))).length = i := by
  have h2 : w.cps.toList.length = w.length := Array.length_toList
  show (cutS w none (some (i : Int))).cps.size = i
  rw [← Array.length_toList]
  show (cut w.cps.toList none (some (i : Int))).length = i
  rw [cut_take, List.length_take, h2]
  omega
theorem cutS_len_drop (w : Str) (i : Nat) : (cutS w (some (i : Int)) none).length = w.length - i := by
  have h2 : w.cps.toList.length = w.length := Array.length_toList
  show (cutS w (some (i : Int)) none).cps.size = _
  rw [← Array.length_toList]
  show (cut w.cps.toList (some (i : Int)) none).length = _
  rw [cut_drop, List.length_drop, h2]
section
variable {P : Program} {w : World} {K : PySem.W.Frag} {mg : Str → Option Value} {base : Heap} {st cs : Addr} {T : List (Addr × Str)} {C CE CW : Addr}
def sp_step_in (C : Addr) : PSpec := fun ds n KP _ => ∃ ls rs x s p, ds = [ruleD C ls rs, .str x, spD s] ∧ rs.length ≤ 8 ∧ RuOk ls p ∧ x.length ≤ 1000 ∧ rs[s.1]? = some p ∧ s.2 < x.length ∧ pre x p.1 s.2 = true ∧ KP n (.frz (.str (doneP p x s.2)))
abbrev Nsi : List Str := ["rules", "word", "thing", "left", "right"]
theorem sc_step_in : FnScope Nsi ["rules", "word", "thing"] (defScope (top 32)) := ⟨rfl, rfl, rfl, by decide +kernel, rfl, by decide +kernel, by decide +kernel⟩
theorem ok_step_in (k : Nat) (d : Def1 K mg "step_in" (top 32)) (c : RulesC K C) (O1 : OkF P w K mg base ⟨K, st, cs, T⟩ k "is_row" ["thing"] (pureSp sp_is_row)) (O2 : OkF P w K mg base ⟨K, st, cs, T⟩ k "is_number" ["thing", "low", "high"] (pureSp sp_is_number)) (m3 : mg "len" = none) :
    OkF P w K mg base ⟨K, st, cs, T⟩ (k + 1) "step_in" ["rules", "word", "thing"] (pureSp (sp_step_in C)) := by
  refine fn_pure d sc_step_in (fun f ds b n KP XP0 hr hl ⟨ls, rs, x, ⟨nu, i⟩, p, e, h8, hru, hx1, hp, hi, hpre, hk⟩ hx => ?_) fun _ _ _ _ _ _ us hl => match us, hl with | [_, _, _], _ => rfl
  subst e
  have nd := sc_step_in.nd
  have hxs : x.length ≤ sizeLine := by show _ ≤ 16777216; omega
  have hps : p.1.length ≤ sizeLine := txtOk_line hru.1
  have c1 := c.c
  have c2 := c.h
  have hnu : nu < rs.length := (List.getElem?_eq_some_iff.mp hp).1
  have a0 : atI [D.int (nu : Int), D.int (i : Int)] 0 = some (.int (nu : Int)) := atI_nat (j := 0) rfl
  have a1 : atI [D.int (nu : Int), D.int (i : Int)] 1 = some (.int (i : Int)) := atI_nat (j := 1) rfl
  have a2 : atI (rs.map ruD) (nu : Int) = some (ruD p) := atI_nat (by rw [List.getElem?_map]; have hp : rs[nu]? = some p := hp; rw [hp]; rfl)
  have hp1 : 1 ≤ p.1.length := by have := hru.2.2.2.2.2.2; omega
  have hle := pre_len hpre hp1
  have hi : i < x.length := hi
  have hle : i + p.1.length ≤ x.length := hle
  have hl6 := hru.2.2.2.2.1
  have hl1 := hru.2.2.2.2.2.1
  repeat infer_instance
  refine ⟨_, rfl, rfl, _, rfl, ?_⟩
  refine iteF rfl ?_
  repeat infer_instance
  refine iteF rfl ?_
  repeat infer_instance
  refine ⟨_, _, _, rfl, rfl, _, rfl, ?_⟩
  refine iteF (by
    show (!(decide ((0 : Int) ≤ nu) && decide ((nu : Int) ≤ ((rs.map ruD).length : Int) - 1))) = false
    rw [List.length_map, decide_eq_true (by omega), decide_eq_true (by omega)]; rfl) ?_
  repeat infer_instance
  refine hs_unp [3, 4] ?_ (pgs_cons (pg_name nd rfl (.inl rfl) (.inr rfl)) (pgs_cons (pg_name nd rfl (.inl rfl) (.inr rfl)) pgs_nil))
  repeat infer_instance
  refine ⟨[.frz (.str p.1), .frz (.str p.2)], .inr ⟨[.str p.1, .str p.2], rfl, rfl⟩, rfl, fun j hj => ⟨?_, pinP _ _ _⟩, ?_⟩
  · have : j = 3 ∨ j = 4 := by simpa using hj
    show j < 5
    omega
  repeat infer_instance
  refine ⟨_, _, _, rfl, rfl, _, rfl, ?_⟩
  refine iteF (by
    show (!(decide ((0 : Int) ≤ i) && decide ((i : Int) ≤ (x.length : Int)))) = false
    rw [decide_eq_true (by omega), decide_eq_true (by omega)]; rfl) ?_
  repeat infer_instance
  rw [starts3_pre (by omega), hpre]
  repeat infer_instance
  refine o_cat (by rw [cutS_len_take _ _ (by omega)]; show _ ≤ 16777216; omega) ?_
  repeat infer_instance
  refine o_cat ?_ hk
  rw [str_len_app, cutS_len_take _ _ (by omega), show ((i : Int) + (p.1.length : Int)) = ((i + p.1.length : Nat) : Int) by omega, cutS_len_drop]
  show _ ≤ 16777216
  omega
end
end K03

set_option Elab.async false
set_option linter.all false
set_option maxRecDepth 100000
set_option maxHeartbeats 4000000
namespace K03
open PySem PySem.Spec PyProof.Rows L2 DL Evl
local macro_rules
| `(tactic| infer_instance) => `(tactic| first
  | (with_reducible show ∃ _, OT.frz _ = _ ∧ _
     refine ⟨_, rfl, ?_⟩)
  | (with_reducible show ∃ _, OT.d (OT.frz _) = _ ∧ _
     refine ⟨_, rfl, ?_⟩)
  | (with_reducible show HSs _ _ _ _ _
     first | refine hss_nil ?_ | refine hss_one ?_ | refine hss_cons ?_)
  | (with_reducible show HS _ _ _ _ _
     first
     | refine hs_ret ?_ | refine hs_if ?_ | refine hs_expr ?_ | refine hs_retN ?_ | refine hs_pass ?_ | refine hs_break ?_ | refine hs_continue ?_
     | refine hs_set 0 ?_ (by assumption) rfl (by first | exact .inl rfl | exact .inr rfl)
     | refine hs_set 1 ?_ (by assumption) rfl (by first | exact .inl rfl | exact .inr rfl)
     | refine hs_set 2 ?_ (by assumption) rfl (by first | exact .inl rfl | exact .inr rfl)
     | refine hs_set 3 ?_ (by assumption) rfl (by first | exact .inl rfl | exact .inr rfl)
     | refine hs_set 4 ?_ (by assumption) rfl (by first | exact .inl rfl | exact .inr rfl)
     | refine hs_set 5 ?_ (by assumption) rfl (by first | exact .inl rfl | exact .inr rfl)
     | refine hs_set 6 ?_ (by assumption) rfl (by first | exact .inl rfl | exact .inr rfl)
     | refine hs_set 7 ?_ (by assumption) rfl (by first | exact .inl rfl | exact .inr rfl)
     | refine hs_set 8 ?_ (by assumption) rfl (by first | exact .inl rfl | exact .inr rfl)
     | refine hs_set 9 ?_ (by assumption) rfl (by first | exact .inl rfl | exact .inr rfl)
     | refine hs_set 10 ?_ (by assumption) rfl (by first | exact .inl rfl | exact .inr rfl)
     | refine hs_set 11 ?_ (by assumption) rfl (by first | exact .inl rfl | exact .inr rfl)
     | refine hs_set 12 ?_ (by assumption) rfl (by first | exact .inl rfl | exact .inr rfl)
     | refine hs_set 13 ?_ (by assumption) rfl (by first | exact .inl rfl | exact .inr rfl)
     | refine hs_set 14 ?_ (by assumption) rfl (by first | exact .inl rfl | exact .inr rfl))
  | (with_reducible show HE _ (.Name _ _) _ _ _
     first
     | refine he_v 0 rfl rfl ?_ | refine he_v 1 rfl rfl ?_ | refine he_v 2 rfl rfl ?_ | refine he_v 3 rfl rfl ?_ | refine he_v 4 rfl rfl ?_
     | refine he_v 5 rfl rfl ?_ | refine he_v 6 rfl rfl ?_ | refine he_v 7 rfl rfl ?_ | refine he_v 8 rfl rfl ?_ | refine he_v 9 rfl rfl ?_
     | refine he_v 10 rfl rfl ?_ | refine he_v 11 rfl rfl ?_ | refine he_v 12 rfl rfl ?_ | refine he_v 13 rfl rfl ?_ | refine he_v 14 rfl rfl ?_
     | refine he_gint (by assumption) rfl ?_ | refine he_gstr (by assumption) rfl ?_)
  | (with_reducible show HE _ (.Constant _ _ _) _ _ _
     first | refine he_int ?_ | refine he_str ?_ | refine he_bl ?_ | refine he_non ?_)
  | (with_reducible show HE _ (.Call (.Name _ _) _ _ _) _ _ _
     first
     | refine he_c1 (by assumption) (by assumption) rfl ?_
     | refine he_c2 (by assumption) (by assumption) rfl ?_
     | refine he_c3 (by assumption) (by assumption) rfl ?_
     | refine he_isRow (by assumption) (by assumption) (by assumption) ?_
     | refine he_isi isInt T_isInt b_int (by assumption) (by assumption) ?_
     | refine he_isi isBl T_isBl b_bool (by assumption) (by assumption) ?_
     | refine he_isi isStr T_isStr b_str (by assumption) (by assumption) ?_
     | refine he_isi isLst T_isLst b_list (by assumption) (by assumption) ?_
     | refine he_isi isTup T_isTup b_tuple (by assumption) (by assumption) ?_
     | refine he_isi isDct T_isDct b_dict (by assumption) (by assumption) ?_
     | refine he_f1 b_len (by assumption) ?_
     | refine he_f1 b_all (by assumption) ?_
     | refine he_f1 b_any (by assumption) ?_
     | refine he_f1 b_sorted (by assumption) ?_
     | refine he_t1 b_list (by assumption) ?_
     | refine he_t1 b_tuple (by assumption) ?_
     | refine he_t1 b_int (by assumption) ?_
     | refine he_t1 b_str (by assumption) ?_)
  | (with_reducible show HE _ (.BinOp _ _ _ _) _ _ _
     refine he_bin ?_)
  | (with_reducible show HE _ (.Compare _ _ _ _) _ _ _
     first | refine he_cmp ?_ | refine he_chain ?_)
  | (with_reducible show HE _ (.UnaryOp _ _ _) _ _ _
     first | refine he_not ?_ | refine he_neg (i := 0) ?_)
  | (with_reducible show HE _ (.IfExp _ _ _ _) _ _ _
     refine he_if ?_)
  | (with_reducible show HE _ (.Subscript _ _ _) _ _ _
     first | refine he_sl ?_ | refine he_ix ?_)
  | (with_reducible show HE _ (.Tuple _ _ _) _ _ _
     refine he_frz (he_tup ?_))
  | (with_reducible show HE _ (.List _ _) _ _ _
     refine he_list ?_)
  | (with_reducible show HE _ (.BoolOp _ _ _) _ _ _
     first | refine he_one ?_ | refine he_and ?_ | refine he_or ?_)
  | (with_reducible show HE _ (.Dict [] [] _) _ _ _
     refine he_dct0 ?_)
  | (with_reducible show HE _ (.Call (.Attribute _ _ _) _ _ _) _ _ _
     first | refine he_join ?_ | refine he_starts3 ?_)
  | (with_reducible show HE _ (.Attribute _ _ _) _ _ _
     refine he_fld ?_)
  | (with_reducible show ∃ _ _ _ _, OT.frz _ = _ ∧ Cls _ _ ∧ _
     refine ⟨_, _, _, _, rfl, by assumption, by assumption, rfl, ?_⟩)
  | (with_reducible show ∃ _ _, [OT.frz _, OT.frz _] = [OT.frz (.str _), OT.frz (.int _)] ∧ _
     refine ⟨_, _, rfl, ?_⟩)
  | (with_reducible show HT _ (.Name _ _) _ _ _
     refine ht_bl ?_
     infer_instance
     with_reducible refine ⟨_, rfl, ?_⟩)
  | (with_reducible show HT _ (.Call _ _ _ _) _ _ _
     refine ht_bl ?_)
  | (with_reducible show HT _ _ _ _ _
     first
     | refine ht_not ?_ | refine ht_cmp ?_ | refine ht_chain ?_ | (refine ht_w ?_; first | refine hw_and ?_ | refine hw_or ?_))
  | (with_reducible show HW _ _ _ _ _
     first | refine hw_and1 ?_ | refine hw_or1 ?_ | refine hw_and ?_ | refine hw_or ?_)
  | (with_reducible show HA _ _ _ _ _
     first | refine ha_nil ?_ | refine ha_cons ?_)
  | (with_reducible show HO2 _ (cB _ .Add) _ _ _ _ _
     first | refine o_add ?_ | refine o_cat (by first | assumption | omega) ?_ | refine o_catO rfl rfl (by first | assumption | omega) ?_)
  | (with_reducible show HO2 _ (cB _ .Sub) _ _ _ _ _
     first | refine o_sub ?_)
  | (with_reducible show HO2 _ (cC _ .Eq) _ _ _ _ _
     first | refine o_eqI ?_ | refine o_eqS ?_ | refine o_eqB ?_)
  | (with_reducible show HO2 _ (cC _ .NotEq) _ _ _ _ _
     first | refine o_neI ?_ | refine o_neS ?_ | refine o_neB ?_)
  | (with_reducible show HO2 _ (cC _ .Lt) _ _ _ _ _
     first | refine o_lt ?_)
  | (with_reducible show HO2 _ (cC _ .LtE) _ _ _ _ _
     first | refine o_le ?_)
  | (with_reducible show HO2 _ (cC _ .Gt) _ _ _ _ _
     first | refine o_gt ?_)
  | (with_reducible show HO2 _ (cC _ .GtE) _ _ _ _ _
     first | refine o_ge ?_)
  | (with_reducible show HO2 _ (cC _ .Is) _ _ _ _ _
     first | refine o_isN ?_)
  | (with_reducible show HO2 _ (cC _ .IsNot) _ _ _ _ _
     first | refine o_notN ?_)
  | (with_reducible show HO2 _ (cC _ .In) _ _ _ _ _
     first | refine o_inS ?_)
  | (with_reducible show HO2 _ (cC _ .NotIn) _ _ _ _ _
     first | refine o_ninS ?_)
  | (with_reducible show HO2 _ (cX _) _ _ _ _ _
     first | refine o_ixL (by first | assumption | rfl) ?_ | refine o_ixT (by first | assumption | rfl) ?_)
  | (with_reducible show HF _ _ _ _ _ _
     first
     | refine hf_lenL ?_ | refine hf_lenT ?_ | refine hf_lenS ⟨by first | assumption | omega, ?_⟩ | refine hf_listL ?_ | refine hf_listT ?_ | refine hf_tupL ?_ | refine hf_tupT ?_ | refine hf_int ?_ | refine hf_intB ?_ | refine hf_strS ?_)
  | (with_reducible show HPo _ _ _ _ _
     first | refine hp_none ?_ | refine hp_some ?_)
  | (with_reducible show HSl _ _ _ _ _ _ _
     first | refine sl_L ?_ | refine sl_S (by first | assumption | omega) ?_)
  | (with_reducible show HGs _ _ _ _ _ _
     first | refine hgs_nil ?_ | refine hgs_cons ?_)
  | (with_reducible show HG _ _ _ _ _ _
     first | refine hg_name _ ⟨Nat.le_of_ble_eq_true rfl, by first | exact pinP _ _ _ | rfl, ?_⟩ | refine hg_tup rfl ?_)
  | (with_reducible show HEb _ _ _ _ _ _
     intro _ _ _ _ _)
  | (with_reducible show HTb _ _ _ _ _ _
     intro _ _ _ _ _)
  | (with_reducible show _ < _ ∧ _ = none ∧ _
     refine ⟨Nat.le_of_ble_eq_true rfl, by first | exact pinP _ _ _ | rfl, ?_⟩)
  | (with_reducible show _ ≤ 100000 ∧ _
     refine ⟨Nat.le_of_ble_eq_true rfl, ?_⟩)
  | (with_reducible show ite (true = true) _ _
     rw [if_pos rfl])
  | (with_reducible show ite (false = true) _ _
     rw [if_neg Bool.false_ne_true])
  | (with_reducible show ite ((!true) = true) _ _
     rw [Bool.not_true, if_neg Bool.false_ne_true])
  | (with_reducible show ite ((!false) = true) _ _
     rw [Bool.not_false, if_pos rfl]))
theorem put_keys {acc : List (Key × D)} {k : Key} {c : D} (q : Key) : q ∈ (putD acc k c).map (fun p => p.1) ↔ q ∈ acc.map (fun p => p.1) ∨ q = k := by
  unfold putD
  by_cases h : (acc.any fun p => decide (p.1 = k)) = true
  · rw [if_pos h, List.map_map]
    have e : acc.map ((fun p : Key × D => p.1) ∘ fun p => if p.1 = k then (p.1, c) else p) = acc.map (fun p => p.1) := by
      refine List.map_congr_left fun p _ => ?_
      show (if p.1 = k then (p.1, c) else p).1 = p.1
      split <;> rfl
    rw [e]
    constructor
    · exact .inl
    · rintro (z | rfl)
      · exact z
      · obtain ⟨p, hp, hq⟩ := List.any_eq_true.mp h
        exact List.mem_map.mpr ⟨p, hp, of_decide_eq_true hq⟩
  · rw [if_neg h, List.map_append, List.mem_append]
    simp
theorem fold_keys {f : D → Key} {c : D} (q : Key) : ∀ (ds : List D) (acc : List (Key × D)), q ∈ (ds.foldl (fun acc d => putD acc (f d) c) acc).map (fun p => p.1) ↔ q ∈ acc.map (fun p => p.1) ∨ ∃ d ∈ ds, f d = q
  | [], acc => by simp
  | d :: ds, acc => by
    rw [List.foldl_cons, fold_keys q ds, put_keys]
    constructor
    · rintro ((h | h) | ⟨e, he, h⟩)
      · exact .inl h
      · exact .inr ⟨d, List.mem_cons_self, h.symm⟩
      · exact .inr ⟨e, List.mem_cons_of_mem _ he, h⟩
    · rintro (h | ⟨e, he, h⟩)
      · exact .inl (.inl h)
      · rcases List.mem_cons.mp he with rfl | he
        · exact .inl (.inr h.symm)
        · exact .inr ⟨e, he, h⟩
def keyS : Key → Str
  | .inr x => x
  | _ => ("" : Str)
theorem keys_strs {acc : List (Key × D)} (h : ∀ q ∈ acc.map (fun p => p.1), ∃ x, q = .inr x) : (acc.map fun p => kD p.1) = (acc.map fun p => keyS p.1).map D.str := by
  rw [List.map_map]
  refine List.map_congr_left fun p hp => ?_
  obtain ⟨x, e⟩ := h p.1 (List.mem_map.mpr ⟨p, hp, rfl⟩)
  show kD p.1 = D.str (keyS p.1)
  rw [e]
  rfl
/-- the words behind one step -/
def isNext (rs : List Ru) (w y : Str) : Prop := ∃ s ∈ kst rs w, y = doneR rs w s
def stepK (rs : List Ru) (w : Str) : D → Key
  | .tup [.int a, .int b] => .inr (doneR rs w (a.toNat, b.toNat))
  | _ => .inl 0
theorem doneR_at {rs : List Ru} {w : Str} {s : Nat × Nat} {p : Ru} (h : rs[s.1]? = some p) : doneR rs w s = doneP p w s.2 := by
  unfold doneR
  rw [h]
section
variable {P : Program} {w : World} {K : PySem.W.Frag} {mg : Str → Option Value} {base : Heap} {st cs : Addr} {T : List (Addr × Str)} {C CE CW : Addr}
def sp_next_words (C : Addr) : PSpec := fun ds n KP _ => ∃ ls rs x, ds = [ruleD C ls rs, .str x] ∧ rs.length ≤ 8 ∧ (∀ p ∈ rs, RuOk ls p) ∧ x.length ≤ 1000 ∧ ∀ xs : List Str, (∀ y, y ∈ xs ↔ isNext rs x y) → KP n (strsO xs)
abbrev Nnw : List Str := ["rules", "word", "step"]
theorem sc_next_words : FnScope Nnw ["rules", "word"] (defScope (top 33)) := ⟨rfl, rfl, rfl, by decide +kernel, rfl, by decide +kernel, by decide +kernel⟩
theorem ok_next_words (k : Nat) (d : Def1 K mg "next_words" (top 33)) (O1 : OkF P w K mg base ⟨K, st, cs, T⟩ k "steps_of" ["rules", "word"] (pureSp (sp_steps_of C))) (O2 : OkF P w K mg base ⟨K, st, cs, T⟩ k "step_in" ["rules", "word", "thing"] (pureSp (sp_step_in C))) (m2 : mg "list" = none) :
    OkF P w K mg base ⟨K, st, cs, T⟩ (k + 1) "next_words" ["rules", "word"] (pureSp (sp_next_words C)) := by
  refine fn_pure d sc_next_words (fun f ds b n KP XP0 hr hl ⟨ls, rs, x, e, h8, hok, hx1, hk⟩ hx => ?_) fun _ _ _ _ _ _ us hl => match us, hl with | [_, _], _ => rfl
  subst e
  have nd := sc_next_words.nd
  repeat infer_instance
  refine he_dcK [("step", 2)] (gName 2) (stepK rs x) (.bl true) (hi_list ?_) (blkOk_by (N := Nnw) (sc := defScope (top 33)) (by decide +kernel)) nd (fun s H C cl fp => pg_name nd rfl (.inl rfl) (.inr rfl)) gi_name (fun i _ => pinP _ _ _)
  repeat infer_instance
  refine ⟨ls, rs, x, rfl, h8, hok, hx1, ?_⟩
  have hkl : (kst rs x).length ≤ 8000 := by
    rw [← kst_all]
    have := kstI_len rs x rs.length
    have h3 : rs.length * x.length ≤ 8 * 1000 := Nat.mul_le_mul h8 hx1
    omega
  refine ⟨(kst rs x).map spD, od_ol' _, by rw [List.length_map]; omega, rfl, fun dd hdd => ?_, ?_⟩
  · obtain ⟨s, hs, rfl⟩ := List.mem_map.mp hdd
    obtain ⟨p, h1, h2, h3⟩ := kst_mem.mp hs
    repeat infer_instance
    refine ⟨ls, rs, x, s, p, rfl, h8, hok p (List.mem_of_getElem? h1), hx1, h1, h2, h3, ?_⟩
    refine ⟨?_, ?_⟩
    · show OT.frz (D.str (doneP p x s.2)) = .frz (.str (doneR rs x (s.1, s.2)))
      rw [doneR_at (s := (s.1, s.2)) h1]
    · repeat infer_instance
      exact ⟨rfl, rfl, rfl⟩
  · obtain ⟨acc, hacc⟩ : ∃ acc, acc = ((kst rs x).map spD).foldl (fun acc d => putD acc (stepK rs x d) (.bl true)) [] := ⟨_, rfl⟩
    rw [← hacc]
    have hmem : ∀ q, q ∈ acc.map (fun p => p.1) ↔ ∃ y, q = .inr y ∧ isNext rs x y := fun q => by
      rw [hacc, fold_keys]
      constructor
      · rintro (h | ⟨d, hd, h⟩)
        · simp at h
        · obtain ⟨s, hs, rfl⟩ := List.mem_map.mp hd
          exact ⟨_, h.symm, s, hs, rfl⟩
      · rintro ⟨y, rfl, s, hs, rfl⟩
        exact .inr ⟨spD s, List.mem_map.mpr ⟨s, hs, rfl⟩, rfl⟩
    refine hf_frz1 ?_
    show HF b.S (.type "list") [.frz (.dct (acc.map fun p => kD p.1) (OT.ds (acc.map fun p => .frz p.2)))] n _ _
    refine hf_listK rfl ?_
    rw [keys_strs fun q hq => by
      obtain ⟨y, h, _⟩ := (hmem q).mp hq
      exact ⟨y, h⟩]
    refine hk _ fun y => ?_
    rw [List.mem_map]
    constructor
    · rintro ⟨p, hp, rfl⟩
      obtain ⟨y, h1, h2⟩ := (hmem p.1).mp (List.mem_map.mpr ⟨p, hp, rfl⟩)
      rw [h1]
      exact h2
    · intro h
      obtain ⟨p, hp, h1⟩ := List.mem_map.mp ((hmem (.inr y)).mpr ⟨y, rfl, h⟩)
      exact ⟨p, hp, by rw [h1]; rfl⟩
end
end K03

set_option Elab.async false
set_option linter.all false
set_option maxRecDepth 100000
set_option maxHeartbeats 4000000
namespace K03
open PySem PySem.Spec PyProof.Rows L2 DL Evl
local macro_rules
| `(tactic| infer_instance) => `(tactic| first
  | (with_reducible show ∃ _, OT.frz _ = _ ∧ _
     refine ⟨_, rfl, ?_⟩)
  | (with_reducible show ∃ _, OT.d (OT.frz _) = _ ∧ _
     refine ⟨_, rfl, ?_⟩)
  | (with_reducible show HSs _ _ _ _ _
     first | refine hss_nil ?_ | refine hss_one ?_ | refine hss_cons ?_)
  | (with_reducible show HS _ _ _ _ _
     first
     | refine hs_ret ?_ | refine hs_if ?_ | refine hs_expr ?_ | refine hs_retN ?_ | refine hs_pass ?_ | refine hs_break ?_ | refine hs_continue ?_
     | refine hs_set 0 ?_ (by assumption) rfl (by first | exact .inl rfl | exact .inr rfl)
     | refine hs_set 1 ?_ (by assumption) rfl (by first | exact .inl rfl | exact .inr rfl)
     | refine hs_set 2 ?_ (by assumption) rfl (by first | exact .inl rfl | exact .inr rfl)
     | refine hs_set 3 ?_ (by assumption) rfl (by first | exact .inl rfl | exact .inr rfl)
     | refine hs_set 4 ?_ (by assumption) rfl (by first | exact .inl rfl | exact .inr rfl)
     | refine hs_set 5 ?_ (by assumption) rfl (by first | exact .inl rfl | exact .inr rfl)
     | refine hs_set 6 ?_ (by assumption) rfl (by first | exact .inl rfl | exact .inr rfl)
     | refine hs_set 7 ?_ (by assumption) rfl (by first | exact .inl rfl | exact .inr rfl)
     | refine hs_set 8 ?_ (by assumption) rfl (by first | exact .inl rfl | exact .inr rfl)
     | refine hs_set 9 ?_ (by assumption) rfl (by first | exact .inl rfl | exact .inr rfl)
     | refine hs_set 10 ?_ (by assumption) rfl (by first | exact .inl rfl | exact .inr rfl)
     | refine hs_set 11 ?_ (by assumption) rfl (by first | exact .inl rfl | exact .inr rfl)
     | refine hs_set 12 ?_ (by assumption) rfl (by first | exact .inl rfl | exact .inr rfl)
     | refine hs_set 13 ?_ (by assumption) rfl (by first | exact .inl rfl | exact .inr rfl)
     | refine hs_set 14 ?_ (by assumption) rfl (by first | exact .inl rfl | exact .inr rfl))
  | (with_reducible show HE _ (.Name _ _) _ _ _
     first
     | refine he_v 0 rfl rfl ?_ | refine he_v 1 rfl rfl ?_ | refine he_v 2 rfl rfl ?_ | refine he_v 3 rfl rfl ?_ | refine he_v 4 rfl rfl ?_
     | refine he_v 5 rfl rfl ?_ | refine he_v 6 rfl rfl ?_ | refine he_v 7 rfl rfl ?_ | refine he_v 8 rfl rfl ?_ | refine he_v 9 rfl rfl ?_
     | refine he_v 10 rfl rfl ?_ | refine he_v 11 rfl rfl ?_ | refine he_v 12 rfl rfl ?_ | refine he_v 13 rfl rfl ?_ | refine he_v 14 rfl rfl ?_
     | refine he_gint (by assumption) rfl ?_ | refine he_gstr (by assumption) rfl ?_)
  | (with_reducible show HE _ (.Constant _ _ _) _ _ _
     first | refine he_int ?_ | refine he_str ?_ | refine he_bl ?_ | refine he_non ?_)
  | (with_reducible show HE _ (.Call (.Name _ _) _ _ _) _ _ _
     first
     | refine he_c1 (by assumption) (by assumption) rfl ?_
     | refine he_c2 (by assumption) (by assumption) rfl ?_
     | refine he_c3 (by assumption) (by assumption) rfl ?_
     | refine he_isRow (by assumption) (by assumption) (by assumption) ?_
     | refine he_isi isInt T_isInt b_int (by assumption) (by assumption) ?_
     | refine he_isi isBl T_isBl b_bool (by assumption) (by assumption) ?_
     | refine he_isi isStr T_isStr b_str (by assumption) (by assumption) ?_
     | refine he_isi isLst T_isLst b_list (by assumption) (by assumption) ?_
     | refine he_isi isTup T_isTup b_tuple (by assumption) (by assumption) ?_
     | refine he_isi isDct T_isDct b_dict (by assumption) (by assumption) ?_
     | refine he_f1 b_len (by assumption) ?_
     | refine he_f1 b_all (by assumption) ?_
     | refine he_f1 b_any (by assumption) ?_
     | refine he_f1 b_sorted (by assumption) ?_
     | refine he_t1 b_list (by assumption) ?_
     | refine he_t1 b_tuple (by assumption) ?_
     | refine he_t1 b_int (by assumption) ?_
     | refine he_t1 b_str (by assumption) ?_)
  | (with_reducible show HE _ (.BinOp _ _ _ _) _ _ _
     refine he_bin ?_)
  | (with_reducible show HE _ (.Compare _ _ _ _) _ _ _
     first | refine he_cmp ?_ | refine he_chain ?_)
  | (with_reducible show HE _ (.UnaryOp _ _ _) _ _ _
     first | refine he_not ?_ | refine he_neg (i := 0) ?_)
  | (with_reducible show HE _ (.IfExp _ _ _ _) _ _ _
     refine he_if ?_)
  | (with_reducible show HE _ (.Subscript _ _ _) _ _ _
     first | refine he_sl ?_ | refine he_ix ?_)
  | (with_reducible show HE _ (.Tuple _ _ _) _ _ _
     refine he_frz (he_tup ?_))
  | (with_reducible show HE _ (.List _ _) _ _ _
     refine he_list ?_)
  | (with_reducible show HE _ (.BoolOp _ _ _) _ _ _
     first | refine he_one ?_ | refine he_and ?_ | refine he_or ?_)
  | (with_reducible show HE _ (.Dict [] [] _) _ _ _
     refine he_dct0 ?_)
  | (with_reducible show HE _ (.Call (.Attribute _ _ _) _ _ _) _ _ _
     first | refine he_join ?_ | refine he_starts3 ?_)
  | (with_reducible show HE _ (.Attribute _ _ _) _ _ _
     refine he_fld ?_)
  | (with_reducible show ∃ _ _ _ _, OT.frz _ = _ ∧ Cls _ _ ∧ _
     refine ⟨_, _, _, _, rfl, by assumption, by assumption, rfl, ?_⟩)
  | (with_reducible show ∃ _ _, [OT.frz _, OT.frz _] = [OT.frz (.str _), OT.frz (.int _)] ∧ _
     refine ⟨_, _, rfl, ?_⟩)
  | (with_reducible show HT _ (.Name _ _) _ _ _
     refine ht_bl ?_
     infer_instance
     with_reducible refine ⟨_, rfl, ?_⟩)
  | (with_reducible show HT _ (.Call _ _ _ _) _ _ _
     refine ht_bl ?_)
  | (with_reducible show HT _ _ _ _ _
     first
     | refine ht_not ?_ | refine ht_cmp ?_ | refine ht_chain ?_ | (refine ht_w ?_; first | refine hw_and ?_ | refine hw_or ?_))
  | (with_reducible show HW _ _ _ _ _
     first | refine hw_and1 ?_ | refine hw_or1 ?_ | refine hw_and ?_ | refine hw_or ?_)
  | (with_reducible show HA _ _ _ _ _
     first | refine ha_nil ?_ | refine ha_cons ?_)
  | (with_reducible show HO2 _ (cB _ .Add) _ _ _ _ _
     first | refine o_add ?_ | refine o_cat (by first | assumption | omega) ?_ | refine o_catO rfl rfl (by first | assumption | omega) ?_)
  | (with_reducible show HO2 _ (cB _ .Sub) _ _ _ _ _
     first | refine o_sub ?_)
  | (with_reducible show HO2 _ (cC _ .Eq) _ _ _ _ _
     first | refine o_eqI ?_ | refine o_eqS ?_ | refine o_eqB ?_)
  | (with_reducible show HO2 _ (cC _ .NotEq) _ _ _ _ _
     first | refine o_neI ?_ | refine o_neS ?_ | refine o_neB ?_)
  | (with_reducible show HO2 _ (cC _ .Lt) _ _ _ _ _
     first | refine o_lt ?_)
  | (with_reducible show HO2 _ (cC _ .LtE) _ _ _ _ _
     first | refine o_le ?_)
  | (with_reducible show HO2 _ (cC _ .Gt) _ _ _ _ _
     first | refine o_gt ?_)
  | (with_reducible show HO2 _ (cC _ .GtE) _ _ _ _ _
     first | refine o_ge ?_)
  | (with_reducible show HO2 _ (cC _ .Is) _ _ _ _ _
     first | refine o_isN ?_)
  | (with_reducible show HO2 _ (cC _ .IsNot) _ _ _ _ _
     first | refine o_notN ?_)
  | (with_reducible show HO2 _ (cC _ .In) _ _ _ _ _
     first | refine o_inS ?_)
  | (with_reducible show HO2 _ (cC _ .NotIn) _ _ _ _ _
     first | refine o_ninS ?_)
  | (with_reducible show HO2 _ (cX _) _ _ _ _ _
     first | refine o_ixL (by first | assumption | rfl) ?_ | refine o_ixT (by first | assumption | rfl) ?_)
  | (with_reducible show HF _ _ _ _ _ _
     first
     | refine hf_lenL ?_ | refine hf_lenT ?_ | refine hf_lenS ⟨by first | assumption | omega, ?_⟩ | refine hf_listL ?_ | refine hf_listT ?_ | refine hf_tupL ?_ | refine hf_tupT ?_ | refine hf_int ?_ | refine hf_intB ?_ | refine hf_strS ?_)
  | (with_reducible show HPo _ _ _ _ _
     first | refine hp_none ?_ | refine hp_some ?_)
  | (with_reducible show HSl _ _ _ _ _ _ _
     first | refine sl_L ?_ | refine sl_S (by first | assumption | omega) ?_)
  | (with_reducible show HGs _ _ _ _ _ _
     first | refine hgs_nil ?_ | refine hgs_cons ?_)
  | (with_reducible show HG _ _ _ _ _ _
     first | refine hg_name _ ⟨Nat.le_of_ble_eq_true rfl, by first | exact pinP _ _ _ | rfl, ?_⟩ | refine hg_tup rfl ?_)
  | (with_reducible show HEb _ _ _ _ _ _
     intro _ _ _ _ _)
  | (with_reducible show HTb _ _ _ _ _ _
     intro _ _ _ _ _)
  | (with_reducible show _ < _ ∧ _ = none ∧ _
     refine ⟨Nat.le_of_ble_eq_true rfl, by first | exact pinP _ _ _ | rfl, ?_⟩)
  | (with_reducible show _ ≤ 100000 ∧ _
     refine ⟨Nat.le_of_ble_eq_true rfl, ?_⟩)
  | (with_reducible show ite (true = true) _ _
     rw [if_pos rfl])
  | (with_reducible show ite (false = true) _ _
     rw [if_neg Bool.false_ne_true])
  | (with_reducible show ite ((!true) = true) _ _
     rw [Bool.not_true, if_neg Bool.false_ne_true])
  | (with_reducible show ite ((!false) = true) _ _
     rw [Bool.not_false, if_pos rfl]))
/-! ### the judge -/
def okStep (rs : List Ru) : D → D → Bool
  | .str x, .str y => (kst rs x).any fun s => decide (y = doneR rs x s)
  | _, _ => false
theorem okStep_iff {rs : List Ru} {x y : Str} : okStep rs (.str x) (.str y) = true ↔ isNext rs x y := by
  show (kst rs x).any (fun s => decide (y = doneR rs x s)) = true ↔ _
  rw [List.any_eq_true]
  constructor
  · rintro ⟨s, h1, h2⟩
    exact ⟨s, h1, of_decide_eq_true h2⟩
  · rintro ⟨s, h1, h2⟩
    exact ⟨s, h1, decide_eq_true h2⟩
def badAt (rs : List Ru) (ts : List D) : Option Nat := (List.range' 1 (ts.length - 1)).find? fun i => !okStep rs (ts.getD (i - 1) .non) (ts.getD i .non)
def wfault (ls : List Str) (rs : List Ru) (x : Str) (t : D) : D :=
  if (!isRow t || (rowD t).isEmpty || !(rowD t).all fun c => isOf ls c 60) = true then .tup [.str "form"] else
  match rowD t with
  | .str y :: _ => if y = x then (match badAt rs (rowD t) with
    | some i => .tup [.str "step", .int (i : Int)]
    | none => .non) else .tup [.str "begin"]
  | _ => .tup [.str "form"]
theorem bad_some {rs : List Ru} {ts : List D} {i : Nat} (h1 : 1 ≤ i) (h2 : i < ts.length) (hb : ∀ j, 1 ≤ j → j < i → okStep rs (ts.getD (j - 1) .non) (ts.getD j .non) = true) (hi : okStep rs (ts.getD (i - 1) .non) (ts.getD i .non) = false) : badAt rs ts = some i := by
  unfold badAt
  rw [List.find?_eq_some_iff_append]
  refine ⟨by rw [hi]; rfl, List.range' 1 (i - 1), List.range' (i + 1) (ts.length - 1 - i), ?_, fun j hj => ?_⟩
  · have e : ts.length - 1 = (i - 1) + ((ts.length - 1 - i) + 1) := by omega
    have e2 : 1 + (i - 1) = i := by omega
    have e3 : List.range' 1 ((i - 1) + ((ts.length - 1 - i) + 1)) = List.range' 1 (i - 1) ++ i :: List.range' (i + 1) (ts.length - 1 - i) := by
      rw [← List.range'_append_1, e2, List.range'_succ]
    rw [← e3, ← e]
  · obtain ⟨h3, h4⟩ := List.mem_range'_1.mp hj
    rw [hb j h3 (by omega)]
    rfl
theorem bad_none {rs : List Ru} {ts : List D} (hb : ∀ j, 1 ≤ j → j < ts.length → okStep rs (ts.getD (j - 1) .non) (ts.getD j .non) = true) : badAt rs ts = none := by
  unfold badAt
  rw [List.find?_eq_none]
  intro j hj
  obtain ⟨h3, h4⟩ := List.mem_range'_1.mp hj
  rw [hb j h3 (by omega)]
  simp
theorem isOf_inv {ls : List Str} {d : D} {m : Int} (h : isOf ls d m = true) : ∃ y, d = .str y ∧ ofL ls y = true ∧ (y.length : Int) ≤ m := by
  cases d with
  | str y =>
    have h : (decide ((y.length : Int) ≤ m) && ofL ls y) = true := h
    rw [Bool.and_eq_true] at h
    exact ⟨y, rfl, h.2, of_decide_eq_true h.1⟩
  | _ => cases h
theorem getD_at {ts : List D} {i : Nat} {d : D} (h : ts[i]? = some d) : ts.getD i .non = d := by
  rw [List.getD_eq_getElem?_getD, h]
  rfl
/-- a thing that may be judged -/
def thOk (t : D) : Prop := plain t = true ∧ (rowD t).length ≤ 100000 ∧ ∀ c ∈ rowD t, askOk c
section
variable {P : Program} {w : World} {K : PySem.W.Frag} {mg : Str → Option Value} {base : Heap} {st cs : Addr} {T : List (Addr × Str)} {C CE CW : Addr}
def sp_walk_fault (C CE CW : Addr) : PSpec := fun ds n KP XP => ∃ d e t, ds = [d, e, t] ∧ (plain d = true ∧ XP n CE ["thing"] [d] ∨ ∃ ls rs, d = ruleD C ls rs ∧ rs.length ≤ 8 ∧ (∀ p ∈ rs, RuOk ls p) ∧ askOk e ∧ (isOf ls e 60 = false ∧ XP n CW ["thing"] [e] ∨ isOf ls e 60 = true ∧ ∃ x, e = .str x ∧ thOk t ∧ KP n (.frz (wfault ls rs x t))))
abbrev Nwf : List Str := ["rules", "word", "thing", "held", "one", "index"]
theorem sc_walk_fault : FnScope Nwf ["rules", "word", "thing"] (defScope (top 34)) := ⟨rfl, rfl, rfl, by decide +kernel, rfl, by decide +kernel, by decide +kernel⟩
theorem ok_walk_fault (k : Nat) (d : Def1 K mg "walk_fault" (top 34)) (O1 : OkF P w K mg base ⟨K, st, cs, T⟩ k "need_rules" ["rules"] (pureSp (sp_need_rules C CE))) (O2 : OkF P w K mg base ⟨K, st, cs, T⟩ k "need_word" ["rules", "word"] (pureSp (sp_need_word C CW))) (O3 : OkF P w K mg base ⟨K, st, cs, T⟩ k "is_row" ["thing"] (pureSp sp_is_row))
    (O4 : OkF P w K mg base ⟨K, st, cs, T⟩ k "is_word" ["rules", "thing"] (pureSp (sp_is_word C))) (O5 : OkF P w K mg base ⟨K, st, cs, T⟩ k "next_words" ["rules", "word"] (pureSp (sp_next_words C))) (m1 : mg "range" = none) (m2 : mg "len" = none) :
    OkK P w K mg base ⟨K, st, cs, T⟩ (k + 1) "walk_fault" (top 34) ["rules", "word", "thing"] (pureSp (sp_walk_fault C CE CW)) := by
  refine fn_pureK d sc_walk_fault fun f ds b n KP XP0 hr hl ⟨d, e, t, eds, hcase⟩ hx => ?_
  subst eds
  have nd := sc_walk_fault.nd
  repeat infer_instance
  rcases hcase with ⟨hp, hxp⟩ | ⟨ls, rs, rfl, h8, hok, hask, hcase⟩
  · exact ⟨_, rfl, .inr ⟨hp, hx _ _ _ _ _ hxp⟩⟩
  refine ⟨_, rfl, .inl ⟨⟨ls, rs, rfl⟩, ?_⟩⟩
  repeat infer_instance
  refine ⟨ls, rs, _, rfl, hask, ?_⟩
  rcases hcase with ⟨hof, hxp⟩ | ⟨hof, x, rfl, ⟨t1, t2, t3⟩, hk⟩
  · rw [show isOf ls (OT.frz e).d 60 = false from hof]
    exact hx _ _ _ _ _ hxp
  rw [show isOf ls (OT.frz (.str x)).d 60 = true from hof]
  repeat infer_instance
  obtain ⟨x', ex, hx1, hx2⟩ := isOf_inv hof
  cases ex
  refine ⟨_, rfl, t1, _, rfl, ?_⟩
  cases hrow : isRow t with
  | false =>
    refine iteT (by show (!isRow t) = true; rw [hrow]; rfl) ?_
    repeat infer_instance
    have : wfault ls rs x t = .tup [.str "form"] := by unfold wfault; rw [hrow]; rfl
    rw [this] at hk
    exact hk
  | true =>
  refine iteF (by show (!isRow t) = false; rw [hrow]; rfl) ?_
  refine hw_or (ht_not (ht_val (he_v 2 rfl rfl ⟨!(rowD t).isEmpty, by rcases row_cases hrow with e | e <;> (rw [e]; rfl), ?_⟩)))
  cases hemp : (rowD t).isEmpty with
  | true =>
    refine iteT rfl ?_
    repeat infer_instance
    have : wfault ls rs x t = .tup [.str "form"] := by unfold wfault; rw [hrow, hemp]; rfl
    rw [this] at hk
    exact hk
  | false =>
  refine iteF rfl ?_
  refine hw_or1 (ht_val (he_filter [("one", 4)] (gName 4) (fun d => !isOf ls d 60) (fun d => .frz d) (hi_rowV 2 rfl (.inl rfl) rfl hrow ?_) (blkOk_by (N := Nwf) (sc := defScope (top 34)) (by decide +kernel)) nd (fun s H C cl fp => pg_name nd rfl (.inl rfl) (.inr rfl)) gi_name (fun i _ => pinP _ _ _)))
  refine ⟨t2, rfl, fun c hc => ?_, ?_⟩
  · repeat infer_instance
    refine ⟨ls, rs, c, rfl, t3 c hc, ?_⟩
    repeat infer_instance
    refine ⟨rfl, fun _ => ?_, fun _ => ⟨rfl, rfl⟩⟩
    repeat infer_instance
    exact ⟨rfl, rfl, rfl⟩
  refine ⟨!((rowD t).all fun c => isOf ls c 60), ?_, ?_⟩
  · show some (!(((rowD t).filter fun d => !isOf ls d 60).map OT.frz).isEmpty) = _
    rw [List.isEmpty_map]
    congr 1
    rw [any_fil]
    generalize rowD t = l
    induction l with
    | nil => rfl
    | cons a l ih => rw [List.any_cons, List.all_cons, ih]; cases isOf ls a 60 <;> rfl
  cases hall : (rowD t).all (fun c => isOf ls c 60) with
  | false =>
    repeat infer_instance
    have : wfault ls rs x t = .tup [.str "form"] := by unfold wfault; rw [hrow, hemp, hall]; rfl
    rw [this] at hk
    exact hk
  | true =>
  obtain ⟨y0, rest, hts⟩ : ∃ y0 rest, rowD t = .str y0 :: rest := by
    match hq : rowD t, hemp, hall with
    | c :: rest, _, h =>
      rw [List.all_cons, Bool.and_eq_true] at h
      obtain ⟨y, rfl, _⟩ := isOf_inv h.1
      exact ⟨y, rest, rfl⟩
  have hword : ∀ (i : Nat) (d : D), (rowD t)[i]? = some d → ∃ y : Str, d = .str y ∧ y.length ≤ 60 := fun i d hd => by
    obtain ⟨y, h1, h2, h3⟩ := isOf_inv (List.all_eq_true.mp hall d (List.mem_of_getElem? hd))
    exact ⟨y, h1, by omega⟩
  have hfin : wfault ls rs x t = if y0 = x then (match badAt rs (rowD t) with
      | some i => .tup [.str "step", .int (i : Int)]
      | none => .non) else .tup [.str "begin"] := by
    unfold wfault
    rw [hrow, hemp, hall]
    rw [hts]
    rfl
  refine iteF rfl ?_
  repeat infer_instance
  refine o_ixR hrow (e := .str y0) (by rw [hts]; exact atI_nat (j := 0) rfl) ?_
  repeat infer_instance
  by_cases hy : y0 = x
  · refine iteF (by rw [decide_eq_true hy]; rfl) ?_
    repeat infer_instance
    refine hs_for (g := gName 5) (hi_range2 m1 (ha_cons (he_int (ha_cons ?_)))) (pg_name nd rfl (.inl rfl) (.inr rfl))
    repeat infer_instance
    refine hf_lenR hrow ?_
    refine ha_nil ⟨1, _, rfl, by decide, by decide, by omega, by omega, fun i n' Γ' => n' = n ∧ (∀ j, 1 ≤ j → j < i + 1 → okStep rs ((rowD t).getD (j - 1) .non) ((rowD t).getD j .non) = true) ∧ ∃ y, Γ' = [some (.frz (ruleD C ls rs)), some (.frz (.str x)), some (.frz t), some (.frz (ruleD C ls rs)), none, y], ⟨rfl, fun j h1 h2 => by omega, none, rfl⟩, ?_, ?_⟩
    · rintro i n' Γ' dd hdd ⟨rfl, hin, y, rfl⟩
      rw [List.getElem?_map] at hdd
      obtain ⟨i', hi', rfl⟩ := Option.map_eq_some_iff.mp hdd
      obtain ⟨hi1, hi2⟩ := List.getElem?_eq_some_iff.mp hi'
      rw [List.length_range] at hi1
      rw [List.getElem_range] at hi2
      subst hi2
      have hlt : i + 1 < (rowD t).length := by omega
      obtain ⟨d1, hd1⟩ : ∃ d, (rowD t)[i + 1]? = some d := ⟨_, List.getElem?_eq_getElem hlt⟩
      obtain ⟨d0, hd0⟩ : ∃ d, (rowD t)[i]? = some d := ⟨_, List.getElem?_eq_getElem (by omega)⟩
      obtain ⟨y1, rfl, hy1⟩ := hword _ _ hd1
      obtain ⟨y2, rfl, hy2⟩ := hword _ _ hd0
      have ec : (1 : Int) + (i : Int) = ((i + 1 : Nat) : Int) := by omega
      rw [ec]
      repeat infer_instance
      refine o_ixR hrow (e := .str y1) (atI_nat hd1) ?_
      repeat infer_instance
      refine o_ixR hrow (e := .str y2) (by rw [show ((i + 1 : Nat) : Int) - 1 = (i : Int) by omega]; exact atI_nat hd0) ?_
      refine ⟨ls, rs, y2, rfl, h8, hok, by omega, fun xs hxs => ?_⟩
      refine ho_fz ?_
      show HO2 _ _ _ _ _ (.frz (OT.d (strsO xs))) _
      rw [strsO_d]
      refine o_ninL rfl (flat4_strs xs) ⟨_, rfl, ?_⟩
      rw [show inD (OT.frz (D.str y1)).d (xs.map .str) = decide (y1 ∈ xs) from inD_strs _ _]
      by_cases hm : y1 ∈ xs
      · refine iteF (by rw [decide_eq_true hm]; rfl) ?_
        repeat infer_instance
        refine ⟨rfl, fun j h1 h2 => ?_, _, rfl⟩
        by_cases q : j < i + 1
        · exact hin j h1 q
        · have e : j = i + 1 := by omega
          subst e
          rw [show i + 1 - 1 = i by omega, getD_at hd0, getD_at hd1]
          exact okStep_iff.mpr ((hxs y1).mp hm)
      · refine iteT (by rw [decide_eq_false hm]; rfl) ?_
        repeat infer_instance
        rw [hfin, if_pos hy, bad_some (i := i + 1) (by omega) hlt (fun j h1 h2 => hin j h1 h2) ?_] at hk
        · exact hk
        · rw [show i + 1 - 1 = i by omega, getD_at hd0, getD_at hd1]
          cases q : okStep rs (.str y2) (.str y1) with
          | false => rfl
          | true => exact absurd ((hxs y1).mpr (okStep_iff.mp q)) hm
    · rintro n' Γ' ⟨rfl, hin, y, rfl⟩
      rw [List.length_map, List.length_range] at hin
      repeat infer_instance
      rw [hfin, if_pos hy, bad_none fun j h1 h2 => hin j h1 (by omega)] at hk
      exact hk
  · refine iteT (by rw [decide_eq_false hy]; rfl) ?_
    repeat infer_instance
    rw [hfin, if_neg hy] at hk
    exact hk
end
end K03

set_option Elab.async false
set_option linter.all false
set_option maxRecDepth 100000
set_option maxHeartbeats 4000000
namespace K03
open PySem PySem.Spec PyProof.Rows L2 DL Evl
local macro_rules
| `(tactic| infer_instance) => `(tactic| first
  | (with_reducible show ∃ _, OT.frz _ = _ ∧ _
     refine ⟨_, rfl, ?_⟩)
  | (with_reducible show ∃ _, OT.d (OT.frz _) = _ ∧ _
     refine ⟨_, rfl, ?_⟩)
  | (with_reducible show HSs _ _ _ _ _
     first | refine hss_nil ?_ | refine hss_one ?_ | refine hss_cons ?_)
  | (with_reducible show HS _ _ _ _ _
     first
     | refine hs_ret ?_ | refine hs_if ?_ | refine hs_expr ?_ | refine hs_retN ?_ | refine hs_pass ?_ | refine hs_break ?_ | refine hs_continue ?_
     | refine hs_set 0 ?_ (by assumption) rfl (by first | exact .inl rfl | exact .inr rfl)
     | refine hs_set 1 ?_ (by assumption) rfl (by first | exact .inl rfl | exact .inr rfl)
     | refine hs_set 2 ?_ (by assumption) rfl (by first | exact .inl rfl | exact .inr rfl)
     | refine hs_set 3 ?_ (by assumption) rfl (by first | exact .inl rfl | exact .inr rfl)
     | refine hs_set 4 ?_ (by assumption) rfl (by first | exact .inl rfl | exact .inr rfl)
     | refine hs_set 5 ?_ (by assumption) rfl (by first | exact .inl rfl | exact .inr rfl)
     | refine hs_set 6 ?_ (by assumption) rfl (by first | exact .inl rfl | exact .inr rfl)
     | refine hs_set 7 ?_ (by assumption) rfl (by first | exact .inl rfl | exact .inr rfl)
     | refine hs_set 8 ?_ (by assumption) rfl (by first | exact .inl rfl | exact .inr rfl)
     | refine hs_set 9 ?_ (by assumption) rfl (by first | exact .inl rfl | exact .inr rfl)
     | refine hs_set 10 ?_ (by assumption) rfl (by first | exact .inl rfl | exact .inr rfl)
     | refine hs_set 11 ?_ (by assumption) rfl (by first | exact .inl rfl | exact .inr rfl)
     | refine hs_set 12 ?_ (by assumption) rfl (by first | exact .inl rfl | exact .inr rfl)
     | refine hs_set 13 ?_ (by assumption) rfl (by first | exact .inl rfl | exact .inr rfl)
     | refine hs_set 14 ?_ (by assumption) rfl (by first | exact .inl rfl | exact .inr rfl))
  | (with_reducible show HE _ (.Name _ _) _ _ _
     first
     | refine he_v 0 rfl rfl ?_ | refine he_v 1 rfl rfl ?_ | refine he_v 2 rfl rfl ?_ | refine he_v 3 rfl rfl ?_ | refine he_v 4 rfl rfl ?_
     | refine he_v 5 rfl rfl ?_ | refine he_v 6 rfl rfl ?_ | refine he_v 7 rfl rfl ?_ | refine he_v 8 rfl rfl ?_ | refine he_v 9 rfl rfl ?_
     | refine he_v 10 rfl rfl ?_ | refine he_v 11 rfl rfl ?_ | refine he_v 12 rfl rfl ?_ | refine he_v 13 rfl rfl ?_ | refine he_v 14 rfl rfl ?_
     | refine he_gint (by assumption) rfl ?_ | refine he_gstr (by assumption) rfl ?_)
  | (with_reducible show HE _ (.Constant _ _ _) _ _ _
     first | refine he_int ?_ | refine he_str ?_ | refine he_bl ?_ | refine he_non ?_)
  | (with_reducible show HE _ (.Call (.Name _ _) _ _ _) _ _ _
     first
     | refine he_c1 (by assumption) (by assumption) rfl ?_
     | refine he_c2 (by assumption) (by assumption) rfl ?_
     | refine he_c3 (by assumption) (by assumption) rfl ?_
     | refine he_isRow (by assumption) (by assumption) (by assumption) ?_
     | refine he_isi isInt T_isInt b_int (by assumption) (by assumption) ?_
     | refine he_isi isBl T_isBl b_bool (by assumption) (by assumption) ?_
     | refine he_isi isStr T_isStr b_str (by assumption) (by assumption) ?_
     | refine he_isi isLst T_isLst b_list (by assumption) (by assumption) ?_
     | refine he_isi isTup T_isTup b_tuple (by assumption) (by assumption) ?_
     | refine he_isi isDct T_isDct b_dict (by assumption) (by assumption) ?_
     | refine he_f1 b_len (by assumption) ?_
     | refine he_f1 b_all (by assumption) ?_
     | refine he_f1 b_any (by assumption) ?_
     | refine he_f1 b_sorted (by assumption) ?_
     | refine he_t1 b_list (by assumption) ?_
     | refine he_t1 b_tuple (by assumption) ?_
     | refine he_t1 b_int (by assumption) ?_
     | refine he_t1 b_str (by assumption) ?_)
  | (with_reducible show HE _ (.BinOp _ _ _ _) _ _ _
     refine he_bin ?_)
  | (with_reducible show HE _ (.Compare _ _ _ _) _ _ _
     first | refine he_cmp ?_ | refine he_chain ?_)
  | (with_reducible show HE _ (.UnaryOp _ _ _) _ _ _
     first | refine he_not ?_ | refine he_neg (i := 0) ?_)
  | (with_reducible show HE _ (.IfExp _ _ _ _) _ _ _
     refine he_if ?_)
  | (with_reducible show HE _ (.Subscript _ _ _) _ _ _
     first | refine he_sl ?_ | refine he_ix ?_)
  | (with_reducible show HE _ (.Tuple _ _ _) _ _ _
     refine he_frz (he_tup ?_))
  | (with_reducible show HE _ (.List _ _) _ _ _
     refine he_list ?_)
  | (with_reducible show HE _ (.BoolOp _ _ _) _ _ _
     first | refine he_one ?_ | refine he_and ?_ | refine he_or ?_)
  | (with_reducible show HE _ (.Dict [] [] _) _ _ _
     refine he_dct0 ?_)
  | (with_reducible show HE _ (.Call (.Attribute _ _ _) _ _ _) _ _ _
     first | refine he_join ?_ | refine he_starts3 ?_)
  | (with_reducible show HE _ (.Attribute _ _ _) _ _ _
     refine he_fld ?_)
  | (with_reducible show ∃ _ _ _ _, OT.frz _ = _ ∧ Cls _ _ ∧ _
     refine ⟨_, _, _, _, rfl, by assumption, by assumption, rfl, ?_⟩)
  | (with_reducible show ∃ _ _, [OT.frz _, OT.frz _] = [OT.frz (.str _), OT.frz (.int _)] ∧ _
     refine ⟨_, _, rfl, ?_⟩)
  | (with_reducible show HT _ (.Name _ _) _ _ _
     refine ht_bl ?_
     infer_instance
     with_reducible refine ⟨_, rfl, ?_⟩)
  | (with_reducible show HT _ (.Call _ _ _ _) _ _ _
     refine ht_bl ?_)
  | (with_reducible show HT _ _ _ _ _
     first
     | refine ht_not ?_ | refine ht_cmp ?_ | refine ht_chain ?_ | (refine ht_w ?_; first | refine hw_and ?_ | refine hw_or ?_))
  | (with_reducible show HW _ _ _ _ _
     first | refine hw_and1 ?_ | refine hw_or1 ?_ | refine hw_and ?_ | refine hw_or ?_)
  | (with_reducible show HA _ _ _ _ _
     first | refine ha_nil ?_ | refine ha_cons ?_)
  | (with_reducible show HO2 _ (cB _ .Add) _ _ _ _ _
     first | refine o_add ?_ | refine o_cat (by first | assumption | omega) ?_ | refine o_catO rfl rfl (by first | assumption | omega) ?_)
  | (with_reducible show HO2 _ (cB _ .Sub) _ _ _ _ _
     first | refine o_sub ?_)
  | (with_reducible show HO2 _ (cC _ .Eq) _ _ _ _ _
     first | refine o_eqI ?_ | refine o_eqS ?_ | refine o_eqB ?_)
  | (with_reducible show HO2 _ (cC _ .NotEq) _ _ _ _ _
     first | refine o_neI ?_ | refine o_neS ?_ | refine o_neB ?_)
  | (with_reducible show HO2 _ (cC _ .Lt) _ _ _ _ _
     first | refine o_lt ?_)
  | (with_reducible show HO2 _ (cC _ .LtE) _ _ _ _ _
     first | refine o_le ?_)
  | (with_reducible show HO2 _ (cC _ .Gt) _ _ _ _ _
     first | refine o_gt ?_)
  | (with_reducible show HO2 _ (cC _ .GtE) _ _ _ _ _
     first | refine o_ge ?_)
  | (with_reducible show HO2 _ (cC _ .Is) _ _ _ _ _
     first | refine o_isN ?_)
  | (with_reducible show HO2 _ (cC _ .IsNot) _ _ _ _ _
     first | refine o_notN ?_)
  | (with_reducible show HO2 _ (cC _ .In) _ _ _ _ _
     first | refine o_inS ?_)
  | (with_reducible show HO2 _ (cC _ .NotIn) _ _ _ _ _
     first | refine o_ninS ?_)
  | (with_reducible show HO2 _ (cX _) _ _ _ _ _
     first | refine o_ixL (by first | assumption | rfl) ?_ | refine o_ixT (by first | assumption | rfl) ?_)
  | (with_reducible show HF _ _ _ _ _ _
     first
     | refine hf_lenL ?_ | refine hf_lenT ?_ | refine hf_lenS ⟨by first | assumption | omega, ?_⟩ | refine hf_listL ?_ | refine hf_listT ?_ | refine hf_tupL ?_ | refine hf_tupT ?_ | refine hf_int ?_ | refine hf_intB ?_ | refine hf_strS ?_)
  | (with_reducible show HPo _ _ _ _ _
     first | refine hp_none ?_ | refine hp_some ?_)
  | (with_reducible show HSl _ _ _ _ _ _ _
     first | refine sl_L ?_ | refine sl_S (by first | assumption | omega) ?_)
  | (with_reducible show HGs _ _ _ _ _ _
     first | refine hgs_nil ?_ | refine hgs_cons ?_)
  | (with_reducible show HG _ _ _ _ _ _
     first | refine hg_name _ ⟨Nat.le_of_ble_eq_true rfl, by first | exact pinP _ _ _ | rfl, ?_⟩ | refine hg_tup rfl ?_)
  | (with_reducible show HEb _ _ _ _ _ _
     intro _ _ _ _ _)
  | (with_reducible show HTb _ _ _ _ _ _
     intro _ _ _ _ _)
  | (with_reducible show _ < _ ∧ _ = none ∧ _
     refine ⟨Nat.le_of_ble_eq_true rfl, by first | exact pinP _ _ _ | rfl, ?_⟩)
  | (with_reducible show _ ≤ 100000 ∧ _
     refine ⟨Nat.le_of_ble_eq_true rfl, ?_⟩)
  | (with_reducible show ite (true = true) _ _
     rw [if_pos rfl])
  | (with_reducible show ite (false = true) _ _
     rw [if_neg Bool.false_ne_true])
  | (with_reducible show ite ((!true) = true) _ _
     rw [Bool.not_true, if_neg Bool.false_ne_true])
  | (with_reducible show ite ((!false) = true) _ _
     rw [Bool.not_false, if_pos rfl]))
theorem str_ext {x y : Str} (h : x.cps.toList = y.cps.toList) : x = y := by
  obtain ⟨⟨a⟩⟩ := x
  obtain ⟨⟨b⟩⟩ := y
  have h : a = b := h
  rw [h]
theorem cut_pre {w l : Str} {i : Nat} (h : i ≤ w.length) : decide (cutS w (some (i : Int)) (some ((i : Int) + (l.length : Int))) = l) = pre w l i := by
  have h2 : w.cps.toList.length = w.length := Array.length_toList
  have e : (cutS w (some (i : Int)) (some ((i : Int) + (l.length : Int)))).cps.toList = (w.cps.toList.drop i).take l.length := by
    show cut w.cps.toList (some (i : Int)) (some ((i : Int) + (l.length : Int))) = _
    unfold cut
    rw [show ((i : Int) + (l.length : Int)) = ((i + l.length : Nat) : Int) by omega, sIx_nat, sIx_nat, h2, Nat.min_eq_left h]
    by_cases q : i + l.length ≤ w.length
    · rw [Nat.min_eq_left q, Nat.add_sub_cancel_left]
    · rw [Nat.min_eq_right (by omega), List.take_of_length_le (by rw [List.length_drop]; omega), List.take_of_length_le (by rw [List.length_drop]; omega)]
  unfold pre
  rw [← e]
  by_cases q : cutS w (some (i : Int)) (some ((i : Int) + (l.length : Int))) = l
  · rw [decide_eq_true q, q, beq_self_eq_true]
  · rw [decide_eq_false q]
    symm
    rw [beq_eq_false_iff_ne]
    exact fun z => q (str_ext z)
def spP (s : Nat × Nat) : PyData := .tuple [.int (s.1 : Int), .int (s.2 : Int)]
theorem toPs_sp : ∀ l : List (Nat × Nat), toPs (l.map spD) = some (l.map spP)
  | [] => rfl
  | x :: xs => by
    show (match toP (spD x), toPs (xs.map spD) with | some p, some ps => some (p :: ps) | _, _ => none) = _
    rw [toPs_sp xs]
    rfl
theorem lay_sp : ∀ l : List (Nat × Nat), PyData.canLayAll0 (l.map spP) = true
  | [] => rfl
  | x :: xs => by
    show (PyData.canLay0 (spP x) && PyData.canLayAll0 (xs.map spP)) = true
    rw [lay_sp xs]
    rfl
theorem dep_sp : ∀ l : List (Nat × Nat), PyData.depthAll (l.map spP) ≤ 1
  | [] => by decide
  | x :: xs => by
    show max (PyData.depth (spP x)) (PyData.depthAll (xs.map spP)) ≤ 1
    have h : PyData.depth (spP x) = 1 := rfl
    have := dep_sp xs
    omega
theorem sh_sps (l : List (Nat × Nat)) : SeqAt.shaped (.list (l.map spP)) = true := by
  show (PyData.canLayAll0 (l.map spP) && decide (PyData.depthAll (l.map spP) + 1 ≤ 64)) = true
  have := dep_sp l
  rw [lay_sp l, decide_eq_true (by omega)]; rfl
theorem eqv_sp (p q : Nat × Nat) : PyData.eqv (spP p) (spP q) = decide (p = q) := by
  show (((p.1 : Int) == (q.1 : Int)) && (((p.2 : Int) == (q.2 : Int)) && true)) = _
  rw [Bool.and_true]
  obtain ⟨a, b⟩ := p
  obtain ⟨c, d⟩ := q
  by_cases h1 : a = c <;> by_cases h2 : b = d <;> simp [h1, h2]
  all_goals omega
theorem any_sp (p : Nat × Nat) : ∀ ps : List (Nat × Nat), ((ps.map spP).any fun z => PyData.eqv z (spP p)) = decide (p ∈ ps)
  | [] => rfl
  | x :: xs => by
    rw [List.map_cons, List.any_cons, any_sp p xs, eqv_sp]
    by_cases h : x = p
    · subst h; simp
    · have h' : ¬ p = x := fun z => h z.symm
      simp [h, h']
section
variable {P : Program} {w : World} {K : PySem.W.Frag} {mg : Str → Option Value} {base : Heap} {st cs : Addr} {T : List (Addr × Str)} {C CE CW : Addr}
def sp_ksteps : PSpec := fun ds n KP _ => ∃ ls rs x, ds = [rowsD ls rs, .str x] ∧ rs.length ≤ 8 ∧ (∀ p ∈ rs, RuOk ls p) ∧ x.length ≤ 1000 ∧ KP n (stepsO (kst rs x))
abbrev Nks : List Str := ["rules", "word", "found", "number", "left", "right", "at"]
theorem sc_ksteps : FnScope Nks ["rules", "word"] (defScope (top 52)) := ⟨rfl, rfl, rfl, by decide +kernel, rfl, by decide +kernel, by decide +kernel⟩
theorem ok_ksteps (k : Nat) (d : Def1 K mg "_law_ksteps" (top 52)) (m1 : mg "enumerate" = none) (m2 : mg "range" = none) (m3 : mg "len" = none) :
    OkF P w K mg base ⟨K, st, cs, T⟩ (k + 1) "_law_ksteps" ["rules", "word"] (pureSp sp_ksteps) := by
  refine fn_pure d sc_ksteps (fun f ds b n KP XP0 hr hl ⟨ls, rs, x, e, h8, hok, hx1, hk⟩ hx => ?_) fun _ _ _ _ _ _ us hl => match us, hl with | [_, _], _ => rfl
  subst e
  have nd := sc_ksteps.nd
  have hxs : x.length ≤ sizeLine := by show _ ≤ 16777216; omega
  have a1 : atI [lsD ls, rsD rs] 1 = some (rsD rs) := atI_nat (j := 1) rfl
  repeat infer_instance
  refine hs_for (g := gTup K 2 (gCons (gName 3) (gCons (gTup K 2 (gCons (gName 4) (gCons (gName 5) gNil))) gNil))) (hi_enumL m1 ?_) (pg_tup rfl (pgs_cons (pg_name nd rfl (.inr rfl) (by first | exact .inl rfl | exact .inr rfl)) (pgs_cons (pg_tup rfl (pgs_cons (pg_name nd rfl (.inr rfl) (by first | exact .inl rfl | exact .inr rfl)) (pgs_cons (pg_name nd rfl (.inl rfl) (.inr rfl)) pgs_nil))) pgs_nil)))
  repeat infer_instance
  refine ⟨_, rfl, fun i n' Γ' => n' = n ∧ ∃ y z u, Γ' = [some (.frz (rowsD ls rs)), some (.frz (.str x)), some (stepsO (kstI rs x i)), y, z, u, none], ⟨rfl, none, none, none, rfl⟩, ?_, ?_⟩
  · rintro i n' Γ' dd hdd ⟨rfl, y, z, u, rfl⟩
    obtain ⟨dp, hdp, rfl⟩ := enumD_at hdd
    rw [List.getElem?_map] at hdp
    obtain ⟨p, hp, rfl⟩ := Option.map_eq_some_iff.mp hdp
    have hpm := List.mem_of_getElem? hp
    have hru := hok p hpm
    have hps : p.1.length ≤ sizeLine := txtOk_line hru.1
    repeat infer_instance
    refine he_extend 2 rfl ?_ rfl (.inl rfl)
    refine he_filter [("at", 6)] (gName 6) (preD x p.1) (fun d => .frz (.tup [.int (i : Int), d])) (hi_range1 m2 ?_) (blkOk_by (N := Nks) (sc := defScope (top 52)) (by decide +kernel)) nd (fun s H C cl fp => pg_name nd rfl (.inl rfl) (.inr rfl)) gi_name (fun i _ => pinP _ _ _)
    repeat infer_instance
    refine ⟨_, rfl, by omega, by omega, by rw [List.length_map, List.length_range]; omega, rfl, fun dd hdd => ?_, ?_⟩
    · obtain ⟨a, ha, rfl⟩ := List.mem_map.mp hdd
      have ha := List.mem_range.mp ha
      repeat infer_instance
      rw [cut_pre (by omega)]
      refine ⟨rfl, fun _ => ?_, fun _ => ⟨rfl, rfl⟩⟩
      repeat infer_instance
      exact ⟨rfl, rfl, rfl⟩
    · have hR : ((List.range (x.length : Int).toNat).map fun i : Nat => D.int (i : Int)) = (List.range x.length).map fun i : Nat => D.int (i : Int) := rfl
      refine ⟨_, _, .inl rfl, rfl, ?_, rfl, some (.frz (.int (i : Int))), some (.frz (.str p.1)), some (.frz (.str p.2)), ?_⟩
      · rw [hR, comp_steps x p.1 i _ (preD x p.1) (fun _ _ => rfl), List.length_map, List.length_map, List.length_map, List.length_map]
        have h1 := kstI_len rs x i
        have h2 := stepsAt_len x i p.1 x.length
        have h3 : rs.length * x.length ≤ 8 * 1000 := Nat.mul_le_mul h8 hx1
        omega
      · rw [hR, comp_steps x p.1 i _ (preD x p.1) (fun _ _ => rfl), kstI_succ hp, ← List.map_append, ← List.map_append]
        rfl
  · rintro n' Γ' ⟨rfl, y, z, u, rfl⟩
    refine hss_one (hs_ret (he_move 2 rfl (.inl rfl) rfl ?_))
    rw [enumD_len, List.length_map, kst_all]
    exact hk
def sp_kdone : PSpec := fun ds n KP _ => ∃ ls rs x s, ds = [rowsD ls rs, .str x, spD s] ∧ rs.length ≤ 8 ∧ (∀ p ∈ rs, RuOk ls p) ∧ x.length ≤ 1000 ∧ s ∈ kst rs x ∧ KP n (.frz (.str (doneR rs x s)))
abbrev Nkd : List Str := ["rules", "word", "thing", "left", "right", "one"]
theorem sc_kdone : FnScope Nkd ["rules", "word", "thing"] (defScope (top 53)) := ⟨rfl, rfl, rfl, by decide +kernel, rfl, by decide +kernel, by decide +kernel⟩
theorem ok_kdone (k : Nat) (d : Def1 K mg "_law_kdone" (top 53)) (O1 : OkF P w K mg base ⟨K, st, cs, T⟩ k "_law_ksteps" ["rules", "word"] (pureSp sp_ksteps)) (m1 : mg "isinstance" = none) (m2 : mg "list" = none) (m3 : mg "tuple" = none) (m4 : mg "len" = none) (m5 : mg "bool" = none) (m6 : mg "int" = none) :
    OkF P w K mg base ⟨K, st, cs, T⟩ (k + 1) "_law_kdone" ["rules", "word", "thing"] (pureSp sp_kdone) := by
  refine fn_pure d sc_kdone (fun f ds b n KP XP0 hr hl ⟨ls, rs, x, ⟨nu, i⟩, e, h8, hok, hx1, hs, hk⟩ hx => ?_) fun _ _ _ _ _ _ us hl => match us, hl with | [_, _, _], _ => rfl
  subst e
  have nd := sc_kdone.nd
  obtain ⟨p, hp, hi, hpre⟩ := kst_mem.mp hs
  have hp : rs[nu]? = some p := hp
  have hi : i < x.length := hi
  have hru := hok p (List.mem_of_getElem? hp)
  have hxs : x.length ≤ sizeLine := by show _ ≤ 16777216; omega
  have hps : p.1.length ≤ sizeLine := txtOk_line hru.1
  have a0 : atI [D.int (nu : Int), D.int (i : Int)] 0 = some (.int (nu : Int)) := atI_nat (j := 0) rfl
  have a1 : atI [D.int (nu : Int), D.int (i : Int)] 1 = some (.int (i : Int)) := atI_nat (j := 1) rfl
  have a2 : atI (rs.map ruD) (nu : Int) = some (ruD p) := atI_nat (by rw [List.getElem?_map, hp]; rfl)
  have a3 : atI [lsD ls, rsD rs] 1 = some (rsD rs) := atI_nat (j := 1) rfl
  have hp1 : 1 ≤ p.1.length := by have := hru.2.2.2.2.2.2; omega
  have hle := pre_len hpre hp1
  have hle : i + p.1.length ≤ x.length := hle
  have hl1 := hru.2.2.2.2.2.1
  repeat infer_instance
  refine ⟨rfl, _, rfl, ?_⟩
  refine iteF rfl ?_
  repeat infer_instance
  refine iteF rfl ?_
  refine hss_nil (hss_cons (hs_if (ht_cmp (he_frzL ?_))))
  refine he_filter [("one", 5)] (gName 5) (fun _ => false) (fun _ => .frz (.int 1)) (hi_tup ?_) (blkOk_by (N := Nkd) (sc := defScope (top 53)) (by decide +kernel)) nd (fun s H C cl fp => pg_name nd rfl (.inl rfl) (.inr rfl)) gi_name (fun i _ => pinP _ _ _)
  repeat infer_instance
  refine ⟨rfl, fun c hc => ?_, ?_⟩
  · obtain ⟨z, rfl⟩ : ∃ z : Int, c = .int z := by
      have : c = .int (nu : Int) ∨ c = .int (i : Int) := by simpa using hc
      rcases this with rfl | rfl <;> exact ⟨_, rfl⟩
    repeat infer_instance
    refine ⟨rfl, _, rfl, ?_⟩
    refine iteF rfl ?_
    repeat infer_instance
    refine ⟨rfl, _, rfl, ?_⟩
    exact ⟨rfl, (fun h => by cases h), fun _ => ⟨rfl, rfl⟩⟩
  refine ⟨[], rfl, he_nilF (o_neNil (xs := []) (fun x hx => by simp at hx) hr.units ⟨_, rfl, ?_⟩)⟩
  refine iteF rfl ?_
  repeat infer_instance
  refine ⟨ls, rs, x, rfl, h8, hok, hx1, ?_⟩
  refine ho_fz ?_
  rw [od_ol']
  refine o_ninD (p := spP (nu, i)) (qs := (kst rs x).map spP) rfl (toPs_sp _) rfl (sh_sps _) (by show b.S.X.A.units + 65 < cLine; have := hr.un; omega) ⟨_, rfl, ?_⟩
  rw [any_sp, decide_eq_true hs]
  repeat infer_instance
  refine hs_unp [3, 4] ?_ (pgs_cons (pg_name nd rfl (.inl rfl) (.inr rfl)) (pgs_cons (pg_name nd rfl (.inl rfl) (.inr rfl)) pgs_nil))
  repeat infer_instance
  refine ⟨[.frz (.str p.1), .frz (.str p.2)], .inr ⟨[.str p.1, .str p.2], rfl, rfl⟩, rfl, fun j hj => ⟨?_, pinP _ _ _⟩, ?_⟩
  · have : j = 3 ∨ j = 4 := by simpa using hj
    show j < 6
    omega
  repeat infer_instance
  refine o_cat (by rw [cutS_len_take _ _ (by omega)]; show _ ≤ 16777216; omega) ?_
  repeat infer_instance
  refine o_cat ?_ ?_
  · rw [str_len_app, cutS_len_take _ _ (by omega), show ((i : Int) + (p.1.length : Int)) = ((i + p.1.length : Nat) : Int) by omega, cutS_len_drop]
    show _ ≤ 16777216
    omega
  · rw [doneR_at (s := (nu, i)) hp] at hk
    exact hk
end
end K03

set_option Elab.async false
set_option linter.all false
set_option maxRecDepth 100000
set_option maxHeartbeats 4000000
namespace K03
open PySem PySem.Spec PyProof.Rows L2 DL Evl
local macro_rules
| `(tactic| infer_instance) => `(tactic| first
  | (with_reducible show ∃ _, OT.frz _ = _ ∧ _
     refine ⟨_, rfl, ?_⟩)
  | (with_reducible show ∃ _, OT.d (OT.frz _) = _ ∧ _
     refine ⟨_, rfl, ?_⟩)
  | (with_reducible show HSs _ _ _ _ _
     first | refine hss_nil ?_ | refine hss_one ?_ | refine hss_cons ?_)
  | (with_reducible show HS _ _ _ _ _
     first
     | refine hs_ret ?_ | refine hs_if ?_ | refine hs_expr ?_ | refine hs_retN ?_ | refine hs_pass ?_ | refine hs_break ?_ | refine hs_continue ?_
     | refine hs_set 0 ?_ (by assumption) rfl (by first | exact .inl rfl | exact .inr rfl)
     | refine hs_set 1 ?_ (by assumption) rfl (by first | exact .inl rfl | exact .inr rfl)
     | refine hs_set 2 ?_ (by assumption) rfl (by first | exact .inl rfl | exact .inr rfl)
     | refine hs_set 3 ?_ (by assumption) rfl (by first | exact .inl rfl | exact .inr rfl)
     | refine hs_set 4 ?_ (by assumption) rfl (by first | exact .inl rfl | exact .inr rfl)
     | refine hs_set 5 ?_ (by assumption) rfl (by first | exact .inl rfl | exact .inr rfl)
     | refine hs_set 6 ?_ (by assumption) rfl (by first | exact .inl rfl | exact .inr rfl)
     | refine hs_set 7 ?_ (by assumption) rfl (by first | exact .inl rfl | exact .inr rfl)
     | refine hs_set 8 ?_ (by assumption) rfl (by first | exact .inl rfl | exact .inr rfl)
     | refine hs_set 9 ?_ (by assumption) rfl (by first | exact .inl rfl | exact .inr rfl)
     | refine hs_set 10 ?_ (by assumption) rfl (by first | exact .inl rfl | exact .inr rfl)
     | refine hs_set 11 ?_ (by assumption) rfl (by first | exact .inl rfl | exact .inr rfl)
     | refine hs_set 12 ?_ (by assumption) rfl (by first | exact .inl rfl | exact .inr rfl)
     | refine hs_set 13 ?_ (by assumption) rfl (by first | exact .inl rfl | exact .inr rfl)
     | refine hs_set 14 ?_ (by assumption) rfl (by first | exact .inl rfl | exact .inr rfl))
  | (with_reducible show HE _ (.Name _ _) _ _ _
     first
     | refine he_v 0 rfl rfl ?_ | refine he_v 1 rfl rfl ?_ | refine he_v 2 rfl rfl ?_ | refine he_v 3 rfl rfl ?_ | refine he_v 4 rfl rfl ?_
     | refine he_v 5 rfl rfl ?_ | refine he_v 6 rfl rfl ?_ | refine he_v 7 rfl rfl ?_ | refine he_v 8 rfl rfl ?_ | refine he_v 9 rfl rfl ?_
     | refine he_v 10 rfl rfl ?_ | refine he_v 11 rfl rfl ?_ | refine he_v 12 rfl rfl ?_ | refine he_v 13 rfl rfl ?_ | refine he_v 14 rfl rfl ?_
     | refine he_gint (by assumption) rfl ?_ | refine he_gstr (by assumption) rfl ?_)
  | (with_reducible show HE _ (.Constant _ _ _) _ _ _
     first | refine he_int ?_ | refine he_str ?_ | refine he_bl ?_ | refine he_non ?_)
  | (with_reducible show HE _ (.Call (.Name _ _) _ _ _) _ _ _
     first
     | refine he_c1 (by assumption) (by assumption) rfl ?_
     | refine he_c2 (by assumption) (by assumption) rfl ?_
     | refine he_c3 (by assumption) (by assumption) rfl ?_
     | refine he_isRow (by assumption) (by assumption) (by assumption) ?_
     | refine he_isi isInt T_isInt b_int (by assumption) (by assumption) ?_
     | refine he_isi isBl T_isBl b_bool (by assumption) (by assumption) ?_
     | refine he_isi isStr T_isStr b_str (by assumption) (by assumption) ?_
     | refine he_isi isLst T_isLst b_list (by assumption) (by assumption) ?_
     | refine he_isi isTup T_isTup b_tuple (by assumption) (by assumption) ?_
     | refine he_isi isDct T_isDct b_dict (by assumption) (by assumption) ?_
     | refine he_f1 b_len (by assumption) ?_
     | refine he_f1 b_all (by assumption) ?_
     | refine he_f1 b_any (by assumption) ?_
     | refine he_f1 b_sorted (by assumption) ?_
     | refine he_t1 b_list (by assumption) ?_
     | refine he_t1 b_tuple (by assumption) ?_
     | refine he_t1 b_int (by assumption) ?_
     | refine he_t1 b_str (by assumption) ?_)
  | (with_reducible show HE _ (.BinOp _ _ _ _) _ _ _
     refine he_bin ?_)
  | (with_reducible show HE _ (.Compare _ _ _ _) _ _ _
     first | refine he_cmp ?_ | refine he_chain ?_)
  | (with_reducible show HE _ (.UnaryOp _ _ _) _ _ _
     first | refine he_not ?_ | refine he_neg (i := 0) ?_)
  | (with_reducible show HE _ (.IfExp _ _ _ _) _ _ _
     refine he_if ?_)
  | (with_reducible show HE _ (.Subscript _ _ _) _ _ _
     first | refine he_sl ?_ | refine he_ix ?_)
  | (with_reducible show HE _ (.Tuple _ _ _) _ _ _
     refine he_frz (he_tup ?_))
  | (with_reducible show HE _ (.List _ _) _ _ _
     refine he_list ?_)
  | (with_reducible show HE _ (.BoolOp _ _ _) _ _ _
     first | refine he_one ?_ | refine he_and ?_ | refine he_or ?_)
  | (with_reducible show HE _ (.Dict [] [] _) _ _ _
     refine he_dct0 ?_)
  | (with_reducible show HE _ (.Call (.Attribute _ _ _) _ _ _) _ _ _
     first | refine he_join ?_ | refine he_starts3 ?_)
  | (with_reducible show HE _ (.Attribute _ _ _) _ _ _
     refine he_fld ?_)
  | (with_reducible show ∃ _ _ _ _, OT.frz _ = _ ∧ Cls _ _ ∧ _
     refine ⟨_, _, _, _, rfl, by assumption, by assumption, rfl, ?_⟩)
  | (with_reducible show ∃ _ _, [OT.frz _, OT.frz _] = [OT.frz (.str _), OT.frz (.int _)] ∧ _
     refine ⟨_, _, rfl, ?_⟩)
  | (with_reducible show HT _ (.Name _ _) _ _ _
     refine ht_bl ?_
     infer_instance
     with_reducible refine ⟨_, rfl, ?_⟩)
  | (with_reducible show HT _ (.Call _ _ _ _) _ _ _
     refine ht_bl ?_)
  | (with_reducible show HT _ _ _ _ _
     first
     | refine ht_not ?_ | refine ht_cmp ?_ | refine ht_chain ?_ | (refine ht_w ?_; first | refine hw_and ?_ | refine hw_or ?_))
  | (with_reducible show HW _ _ _ _ _
     first | refine hw_and1 ?_ | refine hw_or1 ?_ | refine hw_and ?_ | refine hw_or ?_)
  | (with_reducible show HA _ _ _ _ _
     first | refine ha_nil ?_ | refine ha_cons ?_)
  | (with_reducible show HO2 _ (cB _ .Add) _ _ _ _ _
     first | refine o_add ?_ | refine o_cat (by first | assumption | omega) ?_ | refine o_catO rfl rfl (by first | assumption | omega) ?_)
  | (with_reducible show HO2 _ (cB _ .Sub) _ _ _ _ _
     first | refine o_sub ?_)
  | (with_reducible show HO2 _ (cC _ .Eq) _ _ _ _ _
     first | refine o_eqI ?_ | refine o_eqS ?_ | refine o_eqB ?_)
  | (with_reducible show HO2 _ (cC _ .NotEq) _ _ _ _ _
     first | refine o_neI ?_ | refine o_neS ?_ | refine o_neB ?_)
  | (with_reducible show HO2 _ (cC _ .Lt) _ _ _ _ _
     first | refine o_lt ?_)
  | (with_reducible show HO2 _ (cC _ .LtE) _ _ _ _ _
     first | refine o_le ?_)
  | (with_reducible show HO2 _ (cC _ .Gt) _ _ _ _ _
     first | refine o_gt ?_)
  | (with_reducible show HO2 _ (cC _ .GtE) _ _ _ _ _
     first | refine o_ge ?_)
  | (with_reducible show HO2 _ (cC _ .Is) _ _ _ _ _
     first | refine o_isN ?_)
  | (with_reducible show HO2 _ (cC _ .IsNot) _ _ _ _ _
     first | refine o_notN ?_)
  | (with_reducible show HO2 _ (cC _ .In) _ _ _ _ _
     first | refine o_inS ?_)
  | (with_reducible show HO2 _ (cC _ .NotIn) _ _ _ _ _
     first | refine o_ninS ?_)
  | (with_reducible show HO2 _ (cX _) _ _ _ _ _
     first | refine o_ixL (by first | assumption | rfl) ?_ | refine o_ixT (by first | assumption | rfl) ?_)
  | (with_reducible show HF _ _ _ _ _ _
     first
     | refine hf_lenL ?_ | refine hf_lenT ?_ | refine hf_lenS ⟨by first | assumption | omega, ?_⟩ | refine hf_listL ?_ | refine hf_listT ?_ | refine hf_tupL ?_ | refine hf_tupT ?_ | refine hf_int ?_ | refine hf_intB ?_ | refine hf_strS ?_)
  | (with_reducible show HPo _ _ _ _ _
     first | refine hp_none ?_ | refine hp_some ?_)
  | (with_reducible show HSl _ _ _ _ _ _ _
     first | refine sl_L ?_ | refine sl_S (by first | assumption | omega) ?_)
  | (with_reducible show HGs _ _ _ _ _ _
     first | refine hgs_nil ?_ | refine hgs_cons ?_)
  | (with_reducible show HG _ _ _ _ _ _
     first | refine hg_name _ ⟨Nat.le_of_ble_eq_true rfl, by first | exact pinP _ _ _ | rfl, ?_⟩ | refine hg_tup rfl ?_)
  | (with_reducible show HEb _ _ _ _ _ _
     intro _ _ _ _ _)
  | (with_reducible show HTb _ _ _ _ _ _
     intro _ _ _ _ _)
  | (with_reducible show _ < _ ∧ _ = none ∧ _
     refine ⟨Nat.le_of_ble_eq_true rfl, by first | exact pinP _ _ _ | rfl, ?_⟩)
  | (with_reducible show _ ≤ 100000 ∧ _
     refine ⟨Nat.le_of_ble_eq_true rfl, ?_⟩)
  | (with_reducible show ite (true = true) _ _
     rw [if_pos rfl])
  | (with_reducible show ite (false = true) _ _
     rw [if_neg Bool.false_ne_true])
  | (with_reducible show ite ((!true) = true) _ _
     rw [Bool.not_true, if_neg Bool.false_ne_true])
  | (with_reducible show ite ((!false) = true) _ _
     rw [Bool.not_false, if_pos rfl]))
/-- a part of laid things, against nothing -/
theorem sh_some {ds : List D} (h : ∀ c ∈ ds, ∃ p, toP c = some p ∧ PyData.canLay0 p = true ∧ PyData.depth p ≤ 60) : ∃ ps, toPs ds = some ps ∧ SeqAt.shaped (.list ps) = true ∧ ps.isEmpty = ds.isEmpty := by
  have key : ∀ ds : List D, (∀ c ∈ ds, ∃ p, toP c = some p ∧ PyData.canLay0 p = true ∧ PyData.depth p ≤ 60) → ∃ ps, toPs ds = some ps ∧ PyData.canLayAll0 ps = true ∧ PyData.depthAll ps ≤ 60 ∧ ps.isEmpty = ds.isEmpty := by
    intro ds
    induction ds with
    | nil => exact fun _ => ⟨[], rfl, rfl, by decide, rfl⟩
    | cons c ds ih =>
      intro h
      obtain ⟨p, e, h1, h2⟩ := h c List.mem_cons_self
      obtain ⟨ps, e2, h3, h4, _⟩ := ih fun c hc => h c (List.mem_cons_of_mem _ hc)
      refine ⟨p :: ps, ?_, ?_, ?_, rfl⟩
      · show (match toP c, toPs ds with | some p, some ps => some (p :: ps) | _, _ => none) = _
        rw [e, e2]
      · show (PyData.canLay0 p && PyData.canLayAll0 ps) = true
        rw [h1, h3]; rfl
      · show max (PyData.depth p) (PyData.depthAll ps) ≤ 60
        omega
  obtain ⟨ps, e, h1, h2, h3⟩ := key ds h
  refine ⟨ps, e, ?_, h3⟩
  show (PyData.canLayAll0 ps && decide (PyData.depthAll ps + 1 ≤ 64)) = true
  rw [h1, decide_eq_true (by omega)]; rfl
section
variable {S : Sit} {n : Nat} {Γ : Slots} {K : Nat → Slots → OT → Prop}
theorem o_neSome {ds : List D} (h : ∀ c ∈ ds, ∃ p, toP c = some p ∧ PyData.canLay0 p = true ∧ PyData.depth p ≤ 60) (hu : S.X.A.units + 64 < cLine) (k : K n Γ (.frz (.bl (!ds.isEmpty)))) : HO2 S (cC S.X .NotEq) n Γ (.frz (.lst ds)) (.frz (.lst [])) K := by
  obtain ⟨ps, e, h1, h2⟩ := sh_some h
  refine o_neD (p := .list ps) (q := .list []) (by show (toPs ds).map PyData.list = _; rw [e]; rfl) rfl h1 rfl hu ?_
  rw [DL.eqv_nil, h2]
  exact k
end
section
variable {P : Program} {w : World} {K : PySem.W.Frag} {mg : Str → Option Value} {base : Heap} {st cs : Addr} {T : List (Addr × Str)} {C CE CW : Addr}
def sp_kis_word : PSpec := fun ds n KP _ => ∃ ls rs d m, ds = [rowsD ls rs, d, .int m] ∧ askOk d ∧ KP n (.frz (.bl (isOf ls d m)))
abbrev Nkw : List Str := ["rules", "thing", "most", "sign"]
theorem sc_kis_word : FnScope Nkw ["rules", "thing", "most"] (defScope (top 54)) := ⟨rfl, rfl, rfl, by decide +kernel, rfl, by decide +kernel, by decide +kernel⟩
theorem ok_kis_word (k : Nat) (d : Def1 K mg "_law_kis_word" (top 54)) (m1 : mg "isinstance" = none) (m4 : mg "len" = none) (m10 : mg "str" = none) :
    OkF P w K mg base ⟨K, st, cs, T⟩ (k + 1) "_law_kis_word" ["rules", "thing", "most"] (pureSp sp_kis_word) := by
  refine fn_pure d sc_kis_word (fun f ds b n KP XP0 hr hl ⟨ls, rs, d, m, e, ⟨hp, ht⟩, hk⟩ hx => ?_) fun _ _ _ _ _ _ us hl => match us, hl with | [_, _, _], _ => rfl
  subst e
  have nd := sc_kis_word.nd
  have a0 : atI [lsD ls, rsD rs] 0 = some (lsD ls) := atI_nat (j := 0) rfl
  repeat infer_instance
  refine ⟨hp, _, rfl, ?_⟩
  cases d with
  | str x =>
    have hx := ht x rfl
    have hxs := txtOk_line hx
    refine iteT rfl ?_
    repeat infer_instance
    refine iteP ⟨fun h1 => ?_, fun h1 => ?_⟩
    · refine he_one (he_cmp (he_frzL ?_))
      refine he_filter [("sign", 3)] (gName 3) (fun d => !inD d (ls.map .str)) .frz (hi_str (he_v 1 rfl rfl ⟨x, rfl, ?_, rfl, fun c hc => ?_, ?_⟩)) (blkOk_by (N := Nkw) (sc := defScope (top 54)) (by decide +kernel)) nd (fun s H C cl fp => pg_name nd rfl (.inl rfl) (.inr rfl)) gi_name (fun i _ => pinP _ _ _)
      · rw [List.length_map, Array.length_toList]
        exact txtOk_len hx
      · obtain ⟨c, hcm, rfl⟩ := List.mem_map.mp hc
        repeat infer_instance
        refine o_ninL rfl (flat4_strs ls) ⟨_, rfl, rfl, fun _ => ?_, fun _ => ⟨rfl, rfl⟩⟩
        repeat infer_instance
        exact ⟨rfl, rfl, rfl⟩
      · have e : (x.cps.toList.map fun c => D.str ⟨#[c]⟩).filter (fun d => !inD d (ls.map .str)) = ((x.cps.toList.filter fun c => !decide (sg c ∈ ls)).map sg).map .str := by
          rw [List.filter_map, List.map_map]
          congr 1
          refine List.filter_congr fun c _ => ?_
          show (!inD (.str (sg c)) (ls.map .str)) = _
          rw [inD_strs]
        refine ⟨_, rfl, he_nilF ?_⟩
        rw [e]
        refine o_eqNil (fun y hy => ?_) hr.units ?_
        · obtain ⟨c, hc, rfl⟩ := List.mem_map.mp hy
          exact sg_lay (lay_mem (txtOk_lay hx) (List.mem_filter.mp hc).1)
        · have e2 : isOf ls (.str x) m = ((x.cps.toList.filter fun c => !decide (sg c ∈ ls)).map sg).isEmpty := by
            show (decide ((x.length : Int) ≤ m) && ofL ls x) = _
            rw [h1, Bool.true_and, List.isEmpty_map]
            unfold ofL
            generalize x.cps.toList = cs
            induction cs with
            | nil => rfl
            | cons c cs ih =>
              rw [List.all_cons, List.filter_cons]
              cases q : decide (sg c ∈ ls) with
              | true => simpa using ih
              | false => rfl
          rw [← e2]
          exact hk
    · have e2 : isOf ls (.str x) m = false := by
        show (decide ((x.length : Int) ≤ m) && ofL ls x) = _
        rw [h1]; rfl
      rw [e2] at hk
      exact hk
  | non => exact hk
  | bl b => exact hk
  | int b => exact hk
  | lst b => exact hk
  | tup b => exact hk
  | dct b c => exact hk
  | obj C ns vs => cases hp
  | opq v => cases hp
/-- a thing that the law's judge may see -/
def thOk2 (t : D) : Prop := thOk t ∧ ∀ c ∈ rowD t, ∃ p, toP c = some p ∧ PyData.canLay0 p = true ∧ PyData.depth p ≤ 60
def sp_fault : PSpec := fun ds n KP _ => ∃ ls rs x t, ds = [rowsD ls rs, .str x, t] ∧ rs.length ≤ 8 ∧ (∀ p ∈ rs, RuOk ls p) ∧ thOk2 t ∧ KP n (.frz (wfault ls rs x t))
abbrev Nfa : List Str := ["rules", "word", "thing", "one", "at", "ahead", "step"]
theorem sc_fault : FnScope Nfa ["rules", "word", "thing"] (defScope (top 58)) := ⟨rfl, rfl, rfl, by decide +kernel, rfl, by decide +kernel, by decide +kernel⟩
theorem ok_fault (k : Nat) (d : Def1 K mg "_law_fault" (top 58)) (O1 : OkF P w K mg base ⟨K, st, cs, T⟩ k "_law_ksteps" ["rules", "word"] (pureSp sp_ksteps)) (O2 : OkF P w K mg base ⟨K, st, cs, T⟩ k "_law_kdone" ["rules", "word", "thing"] (pureSp sp_kdone)) (O3 : OkF P w K mg base ⟨K, st, cs, T⟩ k "_law_kis_word" ["rules", "thing", "most"] (pureSp sp_kis_word))
    (m1 : mg "isinstance" = none) (m2 : mg "list" = none) (m3 : mg "tuple" = none) (m4 : mg "len" = none) (m5 : mg "range" = none) :
    OkF P w K mg base ⟨K, st, cs, T⟩ (k + 1) "_law_fault" ["rules", "word", "thing"] (pureSp sp_fault) := by
  refine fn_pure d sc_fault (fun f ds b n KP XP0 hr hl ⟨ls, rs, x, t, e, h8, hok, ⟨⟨t1, t2, t3⟩, t4⟩, hk⟩ hx => ?_) fun _ _ _ _ _ _ us hl => match us, hl with | [_, _, _], _ => rfl
  subst e
  have nd := sc_fault.nd
  repeat infer_instance
  refine ⟨t1, _, rfl, ?_⟩
  cases hrow : isRow t with
  | false =>
    repeat infer_instance
    have : wfault ls rs x t = .tup [.str "form"] := by unfold wfault; rw [hrow]; rfl
    rw [this] at hk
    exact hk
  | true =>
  repeat infer_instance
  refine hf_lenR hrow ?_
  repeat infer_instance
  cases hemp : (rowD t).isEmpty with
  | true =>
    refine iteT (by rw [List.isEmpty_iff.mp hemp]; rfl) ?_
    repeat infer_instance
    have : wfault ls rs x t = .tup [.str "form"] := by unfold wfault; rw [hrow, hemp]; rfl
    rw [this] at hk
    exact hk
  | false =>
  have hne : ¬ ((rowD t).length : Int) = 0 := by
    intro z
    have : rowD t = [] := List.length_eq_zero_iff.mp (by omega)
    rw [this] at hemp
    cases hemp
  refine iteF (decide_eq_false hne) ?_
  refine hss_nil (hss_cons (hs_if (ht_cmp (he_frzL ?_))))
  refine he_filter [("one", 3)] (gName 3) (fun d => !isOf ls d 60) (fun d => .frz d) (hi_rowV 2 rfl (.inl rfl) rfl hrow ?_) (blkOk_by (N := Nfa) (sc := defScope (top 58)) (by decide +kernel)) nd (fun s H C cl fp => pg_name nd rfl (.inl rfl) (.inr rfl)) gi_name (fun i _ => pinP _ _ _)
  refine ⟨t2, rfl, fun c hc => ?_, ?_⟩
  · repeat infer_instance
    refine ⟨ls, rs, c, 60, rfl, t3 c hc, ?_⟩
    repeat infer_instance
    refine ⟨rfl, fun _ => ?_, fun _ => ⟨rfl, rfl⟩⟩
    repeat infer_instance
    exact ⟨rfl, rfl, rfl⟩
  refine ⟨(rowD t).filter fun d => !isOf ls d 60, rfl, he_nilF (o_neSome (fun c hc => t4 c (List.mem_filter.mp hc).1) hr.units ⟨_, rfl, ?_⟩)⟩
  have hany : (!((rowD t).filter fun d => !isOf ls d 60).isEmpty) = !((rowD t).all fun c => isOf ls c 60) := by
    rw [any_fil]
    generalize rowD t = l
    induction l with
    | nil => rfl
    | cons a l ih => rw [List.any_cons, List.all_cons, ih]; cases isOf ls a 60 <;> rfl
  rw [hany]
  cases hall : (rowD t).all (fun c => isOf ls c 60) with
  | false =>
    repeat infer_instance
    have : wfault ls rs x t = .tup [.str "form"] := by unfold wfault; rw [hrow, hemp, hall]; rfl
    rw [this] at hk
    exact hk
  | true =>
  obtain ⟨y0, rest, hts⟩ : ∃ y0 rest, rowD t = .str y0 :: rest := by
    match hq : rowD t, hemp, hall with
    | c :: rest, _, h =>
      rw [List.all_cons, Bool.and_eq_true] at h
      obtain ⟨y, rfl, _⟩ := isOf_inv h.1
      exact ⟨y, rest, rfl⟩
  have hword : ∀ (i : Nat) (d : D), (rowD t)[i]? = some d → ∃ y : Str, d = .str y ∧ y.length ≤ 60 := fun i d hd => by
    obtain ⟨y, h1, h2, h3⟩ := isOf_inv (List.all_eq_true.mp hall d (List.mem_of_getElem? hd))
    exact ⟨y, h1, by omega⟩
  have hfin : wfault ls rs x t = if y0 = x then (match badAt rs (rowD t) with
      | some i => .tup [.str "step", .int (i : Int)]
      | none => .non) else .tup [.str "begin"] := by
    unfold wfault
    rw [hrow, hemp, hall]
    rw [hts]
    rfl
  repeat infer_instance
  refine o_ixR hrow (e := .str y0) (by rw [hts]; exact atI_nat (j := 0) rfl) ?_
  repeat infer_instance
  by_cases hy : y0 = x
  · refine iteF (by rw [decide_eq_true hy]; rfl) ?_
    repeat infer_instance
    refine hs_for (g := gName 4) (hi_range2 m5 (ha_cons (he_int (ha_cons ?_)))) (pg_name nd rfl (.inl rfl) (.inr rfl))
    repeat infer_instance
    refine hf_lenR hrow ?_
    refine ha_nil ⟨1, _, rfl, by decide, by decide, by omega, by omega, fun i n' Γ' => n' = n ∧ (∀ j, 1 ≤ j → j < i + 1 → okStep rs ((rowD t).getD (j - 1) .non) ((rowD t).getD j .non) = true) ∧ ∃ y z, Γ' = [some (.frz (rowsD ls rs)), some (.frz (.str x)), some (.frz t), none, y, z, none], ⟨rfl, fun j h1 h2 => by omega, none, none, rfl⟩, ?_, ?_⟩
    · rintro i n' Γ' dd hdd ⟨rfl, hin, y, z, rfl⟩
      rw [List.getElem?_map] at hdd
      obtain ⟨i', hi', rfl⟩ := Option.map_eq_some_iff.mp hdd
      obtain ⟨hi1, hi2⟩ := List.getElem?_eq_some_iff.mp hi'
      rw [List.length_range] at hi1
      rw [List.getElem_range] at hi2
      subst hi2
      have hlt : i + 1 < (rowD t).length := by omega
      obtain ⟨d1, hd1⟩ : ∃ d, (rowD t)[i + 1]? = some d := ⟨_, List.getElem?_eq_getElem hlt⟩
      obtain ⟨d0, hd0⟩ : ∃ d, (rowD t)[i]? = some d := ⟨_, List.getElem?_eq_getElem (by omega)⟩
      obtain ⟨y1, rfl, hy1⟩ := hword _ _ hd1
      obtain ⟨y2, rfl, hy2⟩ := hword _ _ hd0
      have ec : (1 : Int) + (i : Int) = ((i + 1 : Nat) : Int) := by omega
      rw [ec]
      repeat infer_instance
      refine o_ixR hrow (e := .str y2) (by rw [show ((i + 1 : Nat) : Int) - 1 = (i : Int) by omega]; exact atI_nat hd0) ?_
      repeat infer_instance
      refine o_ixR hrow (e := .str y1) (atI_nat hd1) ?_
      refine he_frzL ?_
      refine he_map [("step", 6)] (gName 6) (fun d => .frz (.str (keyS (stepK rs y2 d)))) (hi_list ?_) (blkOk_by (N := Nfa) (sc := defScope (top 58)) (by decide +kernel)) nd (fun s H C cl fp => pg_name nd rfl (.inl rfl) (.inr rfl)) gi_name (fun i _ => pinP _ _ _)
      repeat infer_instance
      refine ⟨ls, rs, y2, rfl, h8, hok, by omega, ?_⟩
      have hkl : (kst rs y2).length ≤ 8000 := by
        rw [← kst_all]
        have := kstI_len rs y2 rs.length
        have h3 : rs.length * y2.length ≤ 8 * 1000 := Nat.mul_le_mul h8 (by omega)
        omega
      refine ⟨(kst rs y2).map spD, od_ol' _, by rw [List.length_map]; omega, rfl, fun dd hdd => ?_, ?_⟩
      · obtain ⟨s, hs, rfl⟩ := List.mem_map.mp hdd
        repeat infer_instance
        exact ⟨ls, rs, y2, s, rfl, h8, hok, by omega, hs, rfl, rfl, rfl⟩
      have exs : ((kst rs y2).map spD).map (fun d => OT.frz (.str (keyS (stepK rs y2 d)))) = (((kst rs y2).map fun s => doneR rs y2 s).map D.str).map .frz := by
        rw [List.map_map, List.map_map, List.map_map]
        rfl
      obtain ⟨xs, hxs⟩ : ∃ xs, xs = (kst rs y2).map fun s => doneR rs y2 s := ⟨_, rfl⟩
      have hnx : ∀ y, y ∈ xs ↔ isNext rs y2 y := fun y => by
        rw [hxs, List.mem_map]
        constructor
        · rintro ⟨s, h1, h2⟩; exact ⟨s, h1, h2.symm⟩
        · rintro ⟨s, h1, h2⟩; exact ⟨s, h1, h2.symm⟩
      refine ⟨xs.map .str, by rw [exs, hxs], ?_⟩
      refine o_ninL rfl (flat4_strs xs) ⟨_, rfl, ?_⟩
      rw [inD_strs]
      by_cases hm : y1 ∈ xs
      · refine iteF (by rw [decide_eq_true hm]; rfl) ?_
        repeat infer_instance
        refine ⟨rfl, fun j h1 h2 => ?_, _, _, rfl⟩
        by_cases q : j < i + 1
        · exact hin j h1 q
        · have e : j = i + 1 := by omega
          subst e
          rw [show i + 1 - 1 = i by omega, getD_at hd0, getD_at hd1]
          exact okStep_iff.mpr ((hnx y1).mp hm)
      · refine iteT (by rw [decide_eq_false hm]; rfl) ?_
        repeat infer_instance
        rw [hfin, if_pos hy, bad_some (i := i + 1) (by omega) hlt (fun j h1 h2 => hin j h1 h2) ?_] at hk
        · exact hk
        · rw [show i + 1 - 1 = i by omega, getD_at hd0, getD_at hd1]
          cases q : okStep rs (.str y2) (.str y1) with
          | false => rfl
          | true => exact absurd ((hnx y1).mpr (okStep_iff.mp q)) hm
    · rintro n' Γ' ⟨rfl, hin, y, z, rfl⟩
      rw [List.length_map, List.length_range] at hin
      repeat infer_instance
      rw [hfin, if_pos hy, bad_none fun j h1 h2 => hin j h1 (by omega)] at hk
      exact hk
  · refine iteT (by rw [decide_eq_false hy]; rfl) ?_
    repeat infer_instance
    rw [hfin, if_neg hy] at hk
    exact hk
end
end K03

set_option Elab.async false
set_option linter.all false
set_option maxRecDepth 100000
set_option maxHeartbeats 4000000
namespace K03
open PySem PySem.Spec PyProof.Rows L2 DL Evl
local macro_rules
| `(tactic| infer_instance) => `(tactic| first
  | (with_reducible show ∃ _, OT.frz _ = _ ∧ _
     refine ⟨_, rfl, ?_⟩)
  | (with_reducible show ∃ _, OT.d (OT.frz _) = _ ∧ _
     refine ⟨_, rfl, ?_⟩)
  | (with_reducible show HSs _ _ _ _ _
     first | refine hss_nil ?_ | refine hss_one ?_ | refine hss_cons ?_)
  | (with_reducible show HS _ _ _ _ _
     first
     | refine hs_ret ?_ | refine hs_if ?_ | refine hs_expr ?_ | refine hs_retN ?_ | refine hs_pass ?_ | refine hs_break ?_ | refine hs_continue ?_
     | refine hs_set 0 ?_ (by assumption) rfl (by first | exact .inl rfl | exact .inr rfl)
     | refine hs_set 1 ?_ (by assumption) rfl (by first | exact .inl rfl | exact .inr rfl)
     | refine hs_set 2 ?_ (by assumption) rfl (by first | exact .inl rfl | exact .inr rfl)
     | refine hs_set 3 ?_ (by assumption) rfl (by first | exact .inl rfl | exact .inr rfl)
     | refine hs_set 4 ?_ (by assumption) rfl (by first | exact .inl rfl | exact .inr rfl)
     | refine hs_set 5 ?_ (by assumption) rfl (by first | exact .inl rfl | exact .inr rfl)
     | refine hs_set 6 ?_ (by assumption) rfl (by first | exact .inl rfl | exact .inr rfl)
     | refine hs_set 7 ?_ (by assumption) rfl (by first | exact .inl rfl | exact .inr rfl)
     | refine hs_set 8 ?_ (by assumption) rfl (by first | exact .inl rfl | exact .inr rfl)
     | refine hs_set 9 ?_ (by assumption) rfl (by first | exact .inl rfl | exact .inr rfl)
     | refine hs_set 10 ?_ (by assumption) rfl (by first | exact .inl rfl | exact .inr rfl)
     | refine hs_set 11 ?_ (by assumption) rfl (by first | exact .inl rfl | exact .inr rfl)
     | refine hs_set 12 ?_ (by assumption) rfl (by first | exact .inl rfl | exact .inr rfl)
     | refine hs_set 13 ?_ (by assumption) rfl (by first | exact .inl rfl | exact .inr rfl)
     | refine hs_set 14 ?_ (by assumption) rfl (by first | exact .inl rfl | exact .inr rfl))
  | (with_reducible show HE _ (.Name _ _) _ _ _
     first
     | refine he_v 0 rfl rfl ?_ | refine he_v 1 rfl rfl ?_ | refine he_v 2 rfl rfl ?_ | refine he_v 3 rfl rfl ?_ | refine he_v 4 rfl rfl ?_
     | refine he_v 5 rfl rfl ?_ | refine he_v 6 rfl rfl ?_ | refine he_v 7 rfl rfl ?_ | refine he_v 8 rfl rfl ?_ | refine he_v 9 rfl rfl ?_
     | refine he_v 10 rfl rfl ?_ | refine he_v 11 rfl rfl ?_ | refine he_v 12 rfl rfl ?_ | refine he_v 13 rfl rfl ?_ | refine he_v 14 rfl rfl ?_
     | refine he_gint (by assumption) rfl ?_ | refine he_gstr (by assumption) rfl ?_)
  | (with_reducible show HE _ (.Constant _ _ _) _ _ _
     first | refine he_int ?_ | refine he_str ?_ | refine he_bl ?_ | refine he_non ?_)
  | (with_reducible show HE _ (.Call (.Name _ _) _ _ _) _ _ _
     first
     | refine he_c1 (by assumption) (by assumption) rfl ?_
     | refine he_c2 (by assumption) (by assumption) rfl ?_
     | refine he_c3 (by assumption) (by assumption) rfl ?_
     | refine he_isRow (by assumption) (by assumption) (by assumption) ?_
     | refine he_isi isInt T_isInt b_int (by assumption) (by assumption) ?_
     | refine he_isi isBl T_isBl b_bool (by assumption) (by assumption) ?_
     | refine he_isi isStr T_isStr b_str (by assumption) (by assumption) ?_
     | refine he_isi isLst T_isLst b_list (by assumption) (by assumption) ?_
     | refine he_isi isTup T_isTup b_tuple (by assumption) (by assumption) ?_
     | refine he_isi isDct T_isDct b_dict (by assumption) (by assumption) ?_
     | refine he_f1 b_len (by assumption) ?_
     | refine he_f1 b_all (by assumption) ?_
     | refine he_f1 b_any (by assumption) ?_
     | refine he_f1 b_sorted (by assumption) ?_
     | refine he_t1 b_list (by assumption) ?_
     | refine he_t1 b_tuple (by assumption) ?_
     | refine he_t1 b_int (by assumption) ?_
     | refine he_t1 b_str (by assumption) ?_)
  | (with_reducible show HE _ (.BinOp _ _ _ _) _ _ _
     refine he_bin ?_)
  | (with_reducible show HE _ (.Compare _ _ _ _) _ _ _
     first | refine he_cmp ?_ | refine he_chain ?_)
  | (with_reducible show HE _ (.UnaryOp _ _ _) _ _ _
     first | refine he_not ?_ | refine he_neg (i := 0) ?_)
  | (with_reducible show HE _ (.IfExp _ _ _ _) _ _ _
     refine he_if ?_)
  | (with_reducible show HE _ (.Subscript _ _ _) _ _ _
     first | refine he_sl ?_ | refine he_ix ?_)
  | (with_reducible show HE _ (.Tuple _ _ _) _ _ _
     refine he_frz (he_tup ?_))
  | (with_reducible show HE _ (.List _ _) _ _ _
     refine he_list ?_)
  | (with_reducible show HE _ (.BoolOp _ _ _) _ _ _
     first | refine he_one ?_ | refine he_and ?_ | refine he_or ?_)
  | (with_reducible show HE _ (.Dict [] [] _) _ _ _
     refine he_dct0 ?_)
  | (with_reducible show HE _ (.Call (.Attribute _ _ _) _ _ _) _ _ _
     first | refine he_join ?_ | refine he_starts3 ?_)
  | (with_reducible show HE _ (.Attribute _ _ _) _ _ _
     refine he_fld ?_)
  | (with_reducible show ∃ _ _ _ _, OT.frz _ = _ ∧ Cls _ _ ∧ _
     refine ⟨_, _, _, _, rfl, by assumption, by assumption, rfl, ?_⟩)
  | (with_reducible show ∃ _ _, [OT.frz _, OT.frz _] = [OT.frz (.str _), OT.frz (.int _)] ∧ _
     refine ⟨_, _, rfl, ?_⟩)
  | (with_reducible show HT _ (.Name _ _) _ _ _
     refine ht_bl ?_
     infer_instance
     with_reducible refine ⟨_, rfl, ?_⟩)
  | (with_reducible show HT _ (.Call _ _ _ _) _ _ _
     refine ht_bl ?_)
  | (with_reducible show HT _ _ _ _ _
     first
     | refine ht_not ?_ | refine ht_cmp ?_ | refine ht_chain ?_ | (refine ht_w ?_; first | refine hw_and ?_ | refine hw_or ?_))
  | (with_reducible show HW _ _ _ _ _
     first | refine hw_and1 ?_ | refine hw_or1 ?_ | refine hw_and ?_ | refine hw_or ?_)
  | (with_reducible show HA _ _ _ _ _
     first | refine ha_nil ?_ | refine ha_cons ?_)
  | (with_reducible show HO2 _ (cB _ .Add) _ _ _ _ _
     first | refine o_add ?_ | refine o_cat (by first | assumption | omega) ?_ | refine o_catO rfl rfl (by first | assumption | omega) ?_)
  | (with_reducible show HO2 _ (cB _ .Sub) _ _ _ _ _
     first | refine o_sub ?_)
  | (with_reducible show HO2 _ (cC _ .Eq) _ _ _ _ _
     first | refine o_eqI ?_ | refine o_eqS ?_ | refine o_eqB ?_)
  | (with_reducible show HO2 _ (cC _ .NotEq) _ _ _ _ _
     first | refine o_neI ?_ | refine o_neS ?_ | refine o_neB ?_)
  | (with_reducible show HO2 _ (cC _ .Lt) _ _ _ _ _
     first | refine o_lt ?_)
  | (with_reducible show HO2 _ (cC _ .LtE) _ _ _ _ _
     first | refine o_le ?_)
  | (with_reducible show HO2 _ (cC _ .Gt) _ _ _ _ _
     first | refine o_gt ?_)
  | (with_reducible show HO2 _ (cC _ .GtE) _ _ _ _ _
     first | refine o_ge ?_)
  | (with_reducible show HO2 _ (cC _ .Is) _ _ _ _ _
     first | refine o_isN ?_)
  | (with_reducible show HO2 _ (cC _ .IsNot) _ _ _ _ _
     first | refine o_notN ?_)
  | (with_reducible show HO2 _ (cC _ .In) _ _ _ _ _
     first | refine o_inS ?_)
  | (with_reducible show HO2 _ (cC _ .NotIn) _ _ _ _ _
     first | refine o_ninS ?_)
  | (with_reducible show HO2 _ (cX _) _ _ _ _ _
     first | refine o_ixL (by first | assumption | rfl) ?_ | refine o_ixT (by first | assumption | rfl) ?_)
  | (with_reducible show HF _ _ _ _ _ _
     first
     | refine hf_lenL ?_ | refine hf_lenT ?_ | refine hf_lenS ⟨by first | assumption | omega, ?_⟩ | refine hf_listL ?_ | refine hf_listT ?_ | refine hf_tupL ?_ | refine hf_tupT ?_ | refine hf_int ?_ | refine hf_intB ?_ | refine hf_strS ?_)
  | (with_reducible show HPo _ _ _ _ _
     first | refine hp_none ?_ | refine hp_some ?_)
  | (with_reducible show HSl _ _ _ _ _ _ _
     first | refine sl_L ?_ | refine sl_S (by first | assumption | omega) ?_)
  | (with_reducible show HGs _ _ _ _ _ _
     first | refine hgs_nil ?_ | refine hgs_cons ?_)
  | (with_reducible show HG _ _ _ _ _ _
     first | refine hg_name _ ⟨Nat.le_of_ble_eq_true rfl, by first | exact pinP _ _ _ | rfl, ?_⟩ | refine hg_tup rfl ?_)
  | (with_reducible show HEb _ _ _ _ _ _
     intro _ _ _ _ _)
  | (with_reducible show HTb _ _ _ _ _ _
     intro _ _ _ _ _)
  | (with_reducible show _ < _ ∧ _ = none ∧ _
     refine ⟨Nat.le_of_ble_eq_true rfl, by first | exact pinP _ _ _ | rfl, ?_⟩)
  | (with_reducible show _ ≤ 100000 ∧ _
     refine ⟨Nat.le_of_ble_eq_true rfl, ?_⟩)
  | (with_reducible show ite (true = true) _ _
     rw [if_pos rfl])
  | (with_reducible show ite (false = true) _ _
     rw [if_neg Bool.false_ne_true])
  | (with_reducible show ite ((!true) = true) _ _
     rw [Bool.not_true, if_neg Bool.false_ne_true])
  | (with_reducible show ite ((!false) = true) _ _
     rw [Bool.not_false, if_pos rfl]))
theorem doneP_len {p : Ru} {w : Str} {i : Nat} (h : i + p.1.length ≤ w.length) : (doneP p w i).length + p.1.length = w.length + p.2.length := by
  unfold doneP
  rw [str_len_app, str_len_app, cutS_len_take _ _ (by omega), show ((i : Int) + (p.1.length : Int)) = ((i + p.1.length : Nat) : Int) by omega, cutS_len_drop]
  omega
theorem doneP_lay {ls : List Str} {p : Ru} {w : Str} {i : Nat} (h : LayW ls w) (hp : LayW ls p.2) : LayW ls (doneP p w i) := by
  obtain ⟨a1, b1, e1⟩ := cutS_part w none (some (i : Int))
  obtain ⟨a2, b2, e2⟩ := cutS_part w (some ((i : Int) + (p.1.length : Int))) none
  exact ((h.part e1).app hp).app (h.part e2)
theorem RuOk.lay {ls : List Str} {p : Ru} (h : RuOk ls p) : LayW ls p.1 ∧ LayW ls p.2 := by
  obtain ⟨h1, h2, h3, h4, _⟩ := h
  refine ⟨fun c hc => ⟨?_, lay_mem (txtOk_lay h1) hc⟩, fun c hc => ⟨?_, lay_mem (txtOk_lay h2) hc⟩⟩
  · unfold ofL at h3
    exact of_decide_eq_true (List.all_eq_true.mp h3 c hc)
  · unfold ofL at h4
    exact of_decide_eq_true (List.all_eq_true.mp h4 c hc)
/-- a word that is behind another one by a step -/
theorem next_ok {ls : List Str} {rs : List Ru} {w y : Str} (hok : ∀ p ∈ rs, RuOk ls p) (hw : LayW ls w) (h : isNext rs w y) : LayW ls y ∧ y.length < w.length := by
  obtain ⟨s, hs, rfl⟩ := h
  obtain ⟨p, h1, h2, h3⟩ := kst_mem.mp hs
  have hru := hok p (List.mem_of_getElem? h1)
  rw [doneR_at h1]
  refine ⟨doneP_lay hw hru.lay.2, ?_⟩
  have hp1 := hru.2.2.2.2.2.2
  have := doneP_len (p := p) (pre_len h3 (by omega))
  omega
/-- words, each of which comes of the one ahead of it -/
def isWalk (ls : List Str) (rs : List Ru) (x : Str) (xs : List Str) : Prop := xs[0]? = some x ∧ (∀ y ∈ xs, LayW ls y ∧ y.length ≤ 60) ∧ ∀ (i : Nat) a b, xs[i]? = some a → xs[i + 1]? = some b → isNext rs a b
theorem isWalk.fault {ls : List Str} {rs : List Ru} {x : Str} {xs : List Str} (h : isWalk ls rs x xs) : wfault ls rs x (lsD xs) = .non := by
  obtain ⟨h0, h1, h2⟩ := h
  match xs, h0, h1, h2 with
  | y :: r, h0, h1, h2 =>
  have hy : y = x := by simpa using h0
  subst hy
  have hall : ((y :: r).map D.str).all (fun c => isOf ls c 60) = true := by
    rw [List.all_eq_true]
    intro c hc
    obtain ⟨z, hz, rfl⟩ := List.mem_map.mp hc
    obtain ⟨h3, h4⟩ := h1 z hz
    exact isOf_true (by omega) h3.of
  unfold wfault
  rw [show rowD (lsD (y :: r)) = (y :: r).map D.str from rfl, hall]
  show (if y = y then (match badAt rs ((y :: r).map D.str) with
      | some i => D.tup [.str "step", .int (i : Int)]
      | none => .non) else .tup [.str "begin"]) = _
  rw [if_pos rfl, bad_none fun j hj1 hj2 => ?_]
  rw [List.length_map] at hj2
  obtain ⟨a, ha⟩ : ∃ a, (y :: r)[j - 1]? = some a := ⟨_, List.getElem?_eq_getElem (by omega)⟩
  obtain ⟨b, hb⟩ : ∃ b, (y :: r)[j]? = some b := ⟨_, List.getElem?_eq_getElem hj2⟩
  rw [getD_at (d := .str a) (by rw [List.getElem?_map, ha]; rfl), getD_at (d := .str b) (by rw [List.getElem?_map, hb]; rfl)]
  exact okStep_iff.mpr (h2 (j - 1) a b ha (by rw [show j - 1 + 1 = j by omega]; exact hb))
theorem isWalk.snoc {ls : List Str} {rs : List Ru} {x z y : Str} {xs : List Str} (hok : ∀ p ∈ rs, RuOk ls p) (h : isWalk ls rs x (xs ++ [z])) (hn : isNext rs z y) : isWalk ls rs x ((xs ++ [z]) ++ [y]) := by
  obtain ⟨h0, h1, h2⟩ := h
  refine ⟨?_, fun a ha => ?_, fun i a b ha hb => ?_⟩
  · rw [List.getElem?_append_left (by rw [List.length_append]; show 0 < xs.length + 1; omega)]
    exact h0
  · rcases List.mem_append.mp ha with h | h
    · exact h1 a h
    · have e : a = y := by simpa using h
      subst e
      obtain ⟨h3, h4⟩ := h1 z (by simp)
      obtain ⟨h5, h6⟩ := next_ok hok h3 hn
      exact ⟨h5, by omega⟩
  · by_cases q : i + 1 < (xs ++ [z]).length
    · rw [List.getElem?_append_left (by omega)] at ha hb
      exact h2 i a b ha hb
    · have hl : (xs ++ [z]).length = xs.length + 1 := by rw [List.length_append]; rfl
      have hb2 := (List.getElem?_eq_some_iff.mp hb).1
      rw [List.length_append] at hb2
      have hb2 : i + 1 < (xs ++ [z]).length + 1 := hb2
      have ei : i = xs.length := by omega
      subst ei
      rw [List.getElem?_append_left (by omega), List.getElem?_append_right (Nat.le_refl _), Nat.sub_self] at ha
      rw [List.getElem?_append_right (by omega), hl, Nat.sub_self] at hb
      have ea : z = a := by simpa using ha
      have eb : y = b := by simpa using hb
      subst ea eb
      exact hn
theorem atI_lastS (xs : List Str) (z : Str) : atI ((xs ++ [z]).map D.str) (-1) = some (.str z) := by
  rw [List.map_append]
  exact atI_last _ _
section
variable {P : Program} {w : World} {K : PySem.W.Frag} {mg : Str → Option Value} {base : Heap} {st cs : Addr} {T : List (Addr × Str)} {C CE CW : Addr}
def sp_words (st : Addr) : PSpec := fun ds n KP _ => ∃ ls rs x, ds = [.opq (.ref st), rowsD ls rs, .str x] ∧ rs.length ≤ 8 ∧ (∀ p ∈ rs, RuOk ls p) ∧ LayW ls x ∧ x.length ≤ 60 ∧ 130 ≤ n ∧ ∀ n' xs, n ≤ n' + 130 → n' ≤ n → isWalk ls rs x xs → xs.length ≤ 61 → KP n' (strsO xs)
abbrev Nwo : List Str := ["stream", "rules", "word", "found"]
theorem sc_words : FnScope Nwo ["stream", "rules", "word"] (defScope (top 59)) := ⟨rfl, rfl, rfl, by decide +kernel, rfl, by decide +kernel, by decide +kernel⟩
theorem ok_words (k : Nat) (d : Def1 K mg "_law_words" (top 59)) (O1 : OkF P w K mg base ⟨K, st, cs, T⟩ k "_law_ksteps" ["rules", "word"] (pureSp sp_ksteps)) (O2 : OkF P w K mg base ⟨K, st, cs, T⟩ k "_law_kdone" ["rules", "word", "thing"] (pureSp sp_kdone))
    (O3 : OkF P w K mg base ⟨K, st, cs, T⟩ k "_law_chance" ["stream", "many"] (pureSp (sp_chance st))) (O4 : OkF P w K mg base ⟨K, st, cs, T⟩ k "_law_pick" ["stream", "some"] (pureSp (sp_pick st))) :
    OkF P w K mg base ⟨K, st, cs, T⟩ (k + 1) "_law_words" ["stream", "rules", "word"] (pureSp (sp_words st)) := by
  refine fn_pure d sc_words (fun f ds b n KP XP0 hr hl ⟨ls, rs, x, e, h8, hok, hx1, hx2, hn, hk⟩ hx => ?_) fun _ _ _ _ _ _ us hl => match us, hl with | [_, _, _], _ => rfl
  subst e
  have nd := sc_words.nd
  repeat infer_instance
  refine hs_while (fun m n' Γ' => ∃ xs z, isWalk ls rs x (xs ++ [z]) ∧ m = z.length ∧ xs.length + z.length ≤ 60 ∧ n' ≤ n ∧ n + 2 * z.length ≤ n' + 2 * x.length ∧ Γ' = [some (.frz (.opq (.ref st))), some (.frz (rowsD ls rs)), some (.frz (.str x)), some (strsO (xs ++ [z]))]) ⟨x.length, [], x, ⟨rfl, fun y hy => ?_, fun i a b ha hb => ?_⟩, rfl, by show 0 + _ ≤ _; omega, Nat.le_refl _, by omega, rfl⟩ ?_
  · have : y = x := by simpa using hy
    subst this
    exact ⟨hx1, hx2⟩
  · simp at hb
  rintro m n' Γ' ⟨xs, z, hw, rfl, hxl, hn1, hn2, rfl⟩
  obtain ⟨hz1, hz2⟩ := hw.2.1 z (by simp)
  have aL := atI_lastS xs z
  have hkl : (kst rs z).length ≤ 8000 := by
    rw [← kst_all]
    have := kstI_len rs z rs.length
    have h3 : rs.length * z.length ≤ 8 * 1000 := Nat.mul_le_mul h8 (by omega)
    omega
  have fin : KP n' (strsO (xs ++ [z])) := hk n' _ (by omega) hn1 hw (by rw [List.length_append]; show xs.length + 1 ≤ 61; omega)
  refine ht_w (hw_and (ht_bor fun E' xo' hP => ht_cmp ?_))
  refine he_c2 O1 hr rfl (he_v 1 rfl rfl (he_ix (he_v 3 rfl rfl (he_neg (i := 0) (he_int ⟨1, rfl, ?_⟩)))))
  show HO2 _ _ _ _ (.frz (OT.d (strsO (xs ++ [z])))) _ _
  rw [strsO_d]
  refine o_ixL aL ⟨ls, rs, z, rfl, h8, hok, by omega, ?_⟩
  refine he_nilF (ho_fz ?_)
  show HO2 _ _ _ _ (.frz (OT.d (stepsO (kst rs z)))) _ _
  rw [od_ol']
  refine o_neD (p := .list ((kst rs z).map spP)) (q := .list []) (by show (toPs _).map PyData.list = _; rw [toPs_sp]; rfl) rfl (sh_sps _) rfl hr.units ⟨_, rfl, ?_⟩
  rw [DL.eqv_nil, List.isEmpty_map]
  cases hem : (kst rs z).isEmpty with
  | true =>
    refine iteF rfl ?_
    refine iteF rfl ?_
    exact hss_one (hs_ret (he_move 3 rfl (.inl rfl) rfl fin))
  | false =>
  refine iteT rfl ?_
  have hne : 1 ≤ (kst rs z).length := by
    cases q : kst rs z with
    | nil => rw [q] at hem; cases hem
    | cons a l => rw [List.length_cons]; omega
  repeat infer_instance
  have hz0 : 1 ≤ z.length := by
    obtain ⟨s, l, hs⟩ : ∃ s l, kst rs z = s :: l := by
      match hq : kst rs z, hne with
      | s :: l, _ => exact ⟨s, l, rfl⟩
    have : s ∈ kst rs z := by rw [hs]; simp
    obtain ⟨p, _, h2, _⟩ := kst_mem.mp this
    omega
  refine ⟨5, rfl, by decide, by decide, by omega, fun b5 => ?_⟩
  repeat infer_instance
  cases b5 with
  | true =>
    refine iteF rfl ?_
    exact hss_one (hs_ret (he_move 3 rfl (.inl rfl) rfl (hk _ _ (by omega) (by omega) hw (by rw [List.length_append]; show xs.length + 1 ≤ 61; omega))))
  | false =>
  refine iteT rfl ?_
  refine hss_one (hs_expr (he_append 3 rfl (he_bor fun E' xo' hP => ?_) rfl (.inl rfl)))
  refine he_c3 O2 hr rfl (he_v 1 rfl rfl (he_ix (he_v 3 rfl rfl (he_neg (i := 0) (he_int ⟨1, rfl, ?_⟩)))))
  show HO2 _ _ _ _ (.frz (OT.d (strsO (xs ++ [z])))) _ _
  rw [strsO_d]
  refine o_ixL aL ?_
  refine he_c2 O4 hr rfl (he_v 0 rfl rfl (he_c2 O1 hr rfl (he_v 1 rfl rfl (he_ix (he_v 3 rfl rfl (he_neg (i := 0) (he_int ⟨1, rfl, ?_⟩)))))))
  show HO2 _ _ _ _ (.frz (OT.d (strsO (xs ++ [z])))) _ _
  rw [strsO_d]
  refine o_ixL aL ⟨ls, rs, z, rfl, h8, hok, by omega, ?_⟩
  refine ⟨(kst rs z).map spD, by rw [show OT.d (stepsO (kst rs z)) = .lst ((kst rs z).map spD) from od_ol' _]; rfl, by rw [List.length_map]; exact hne, by rw [List.length_map]; omega, by omega, fun s' hs' => ?_⟩
  obtain ⟨s, hs, rfl⟩ := List.mem_map.mp hs'
  refine ⟨ls, rs, z, s, rfl, h8, hok, by omega, hs, rfl, strsO (xs ++ [z]) |> fun _ => ((xs ++ [z]).map D.str).map OT.frz, rfl, by rw [List.length_map, List.length_map, List.length_append]; show xs.length + 1 < _; omega, ?_⟩
  have hnx : isNext rs z (doneR rs z s) := ⟨s, hs, rfl⟩
  obtain ⟨g1, g2⟩ := next_ok hok hz1 hnx
  refine ⟨(doneR rs z s).length, g2, xs ++ [z], doneR rs z s, hw.snoc hok hnx, rfl, by rw [List.length_append]; show xs.length + 1 + _ ≤ 60; omega, by omega, by omega, ?_⟩
  show _ = [_, _, _, some (OT.ol ((((xs ++ [z]) ++ [doneR rs z s]).map D.str).map OT.frz))]
  rw [List.map_append (l₂ := [doneR rs z s]), List.map_append (l₂ := [doneR rs z s].map D.str)]
  rfl
end
end K03

set_option Elab.async false
set_option linter.all false
set_option maxRecDepth 100000
set_option maxHeartbeats 4000000
namespace K03
open PySem PySem.Spec PyProof.Rows L2 DL Evl
local macro_rules
| `(tactic| infer_instance) => `(tactic| first
  | (with_reducible show ∃ _, OT.frz _ = _ ∧ _
     refine ⟨_, rfl, ?_⟩)
  | (with_reducible show ∃ _, OT.d (OT.frz _) = _ ∧ _
     refine ⟨_, rfl, ?_⟩)
  | (with_reducible show HSs _ _ _ _ _
     first | refine hss_nil ?_ | refine hss_one ?_ | refine hss_cons ?_)
  | (with_reducible show HS _ _ _ _ _
     first
     | refine hs_ret ?_ | refine hs_if ?_ | refine hs_expr ?_ | refine hs_retN ?_ | refine hs_pass ?_ | refine hs_break ?_ | refine hs_continue ?_
     | refine hs_set 0 ?_ (by assumption) rfl (by first | exact .inl rfl | exact .inr rfl)
     | refine hs_set 1 ?_ (by assumption) rfl (by first | exact .inl rfl | exact .inr rfl)
     | refine hs_set 2 ?_ (by assumption) rfl (by first | exact .inl rfl | exact .inr rfl)
     | refine hs_set 3 ?_ (by assumption) rfl (by first | exact .inl rfl | exact .inr rfl)
     | refine hs_set 4 ?_ (by assumption) rfl (by first | exact .inl rfl | exact .inr rfl)
     | refine hs_set 5 ?_ (by assumption) rfl (by first | exact .inl rfl | exact .inr rfl)
     | refine hs_set 6 ?_ (by assumption) rfl (by first | exact .inl rfl | exact .inr rfl)
     | refine hs_set 7 ?_ (by assumption) rfl (by first | exact .inl rfl | exact .inr rfl)
     | refine hs_set 8 ?_ (by assumption) rfl (by first | exact .inl rfl | exact .inr rfl)
     | refine hs_set 9 ?_ (by assumption) rfl (by first | exact .inl rfl | exact .inr rfl)
     | refine hs_set 10 ?_ (by assumption) rfl (by first | exact .inl rfl | exact .inr rfl)
     | refine hs_set 11 ?_ (by assumption) rfl (by first | exact .inl rfl | exact .inr rfl)
     | refine hs_set 12 ?_ (by assumption) rfl (by first | exact .inl rfl | exact .inr rfl)
     | refine hs_set 13 ?_ (by assumption) rfl (by first | exact .inl rfl | exact .inr rfl)
     | refine hs_set 14 ?_ (by assumption) rfl (by first | exact .inl rfl | exact .inr rfl))
  | (with_reducible show HE _ (.Name _ _) _ _ _
     first
     | refine he_v 0 rfl rfl ?_ | refine he_v 1 rfl rfl ?_ | refine he_v 2 rfl rfl ?_ | refine he_v 3 rfl rfl ?_ | refine he_v 4 rfl rfl ?_
     | refine he_v 5 rfl rfl ?_ | refine he_v 6 rfl rfl ?_ | refine he_v 7 rfl rfl ?_ | refine he_v 8 rfl rfl ?_ | refine he_v 9 rfl rfl ?_
     | refine he_v 10 rfl rfl ?_ | refine he_v 11 rfl rfl ?_ | refine he_v 12 rfl rfl ?_ | refine he_v 13 rfl rfl ?_ | refine he_v 14 rfl rfl ?_
     | refine he_gint (by assumption) rfl ?_ | refine he_gstr (by assumption) rfl ?_)
  | (with_reducible show HE _ (.Constant _ _ _) _ _ _
     first | refine he_int ?_ | refine he_str ?_ | refine he_bl ?_ | refine he_non ?_)
  | (with_reducible show HE _ (.Call (.Name _ _) _ _ _) _ _ _
     first
     | refine he_c1 (by assumption) (by assumption) rfl ?_
     | refine he_c2 (by assumption) (by assumption) rfl ?_
     | refine he_c3 (by assumption) (by assumption) rfl ?_
     | refine he_isRow (by assumption) (by assumption) (by assumption) ?_
     | refine he_isi isInt T_isInt b_int (by assumption) (by assumption) ?_
     | refine he_isi isBl T_isBl b_bool (by assumption) (by assumption) ?_
     | refine he_isi isStr T_isStr b_str (by assumption) (by assumption) ?_
     | refine he_isi isLst T_isLst b_list (by assumption) (by assumption) ?_
     | refine he_isi isTup T_isTup b_tuple (by assumption) (by assumption) ?_
     | refine he_isi isDct T_isDct b_dict (by assumption) (by assumption) ?_
     | refine he_f1 b_len (by assumption) ?_
     | refine he_f1 b_all (by assumption) ?_
     | refine he_f1 b_any (by assumption) ?_
     | refine he_f1 b_sorted (by assumption) ?_
     | refine he_t1 b_list (by assumption) ?_
     | refine he_t1 b_tuple (by assumption) ?_
     | refine he_t1 b_int (by assumption) ?_
     | refine he_t1 b_str (by assumption) ?_)
  | (with_reducible show HE _ (.BinOp _ _ _ _) _ _ _
     refine he_bin ?_)
  | (with_reducible show HE _ (.Compare _ _ _ _) _ _ _
     first | refine he_cmp ?_ | refine he_chain ?_)
  | (with_reducible show HE _ (.UnaryOp _ _ _) _ _ _
     first | refine he_not ?_ | refine he_neg (i := 0) ?_)
  | (with_reducible show HE _ (.IfExp _ _ _ _) _ _ _
     refine he_if ?_)
  | (with_reducible show HE _ (.Subscript _ _ _) _ _ _
     first | refine he_sl ?_ | refine he_ix ?_)
  | (with_reducible show HE _ (.Tuple _ _ _) _ _ _
     refine he_frz (he_tup ?_))
  | (with_reducible show HE _ (.List _ _) _ _ _
     refine he_list ?_)
  | (with_reducible show HE _ (.BoolOp _ _ _) _ _ _
     first | refine he_one ?_ | refine he_and ?_ | refine he_or ?_)
  | (with_reducible show HE _ (.Dict [] [] _) _ _ _
     refine he_dct0 ?_)
  | (with_reducible show HE _ (.Call (.Attribute _ _ _) _ _ _) _ _ _
     first | refine he_join ?_ | refine he_starts3 ?_)
  | (with_reducible show HE _ (.Attribute _ _ _) _ _ _
     refine he_fld ?_)
  | (with_reducible show ∃ _ _ _ _, OT.frz _ = _ ∧ Cls _ _ ∧ _
     refine ⟨_, _, _, _, rfl, by assumption, by assumption, rfl, ?_⟩)
  | (with_reducible show ∃ _ _, [OT.frz _, OT.frz _] = [OT.frz (.str _), OT.frz (.int _)] ∧ _
     refine ⟨_, _, rfl, ?_⟩)
  | (with_reducible show HT _ (.Name _ _) _ _ _
     refine ht_bl ?_
     infer_instance
     with_reducible refine ⟨_, rfl, ?_⟩)
  | (with_reducible show HT _ (.Call _ _ _ _) _ _ _
     refine ht_bl ?_)
  | (with_reducible show HT _ _ _ _ _
     first
     | refine ht_not ?_ | refine ht_cmp ?_ | refine ht_chain ?_ | (refine ht_w ?_; first | refine hw_and ?_ | refine hw_or ?_))
  | (with_reducible show HW _ _ _ _ _
     first | refine hw_and1 ?_ | refine hw_or1 ?_ | refine hw_and ?_ | refine hw_or ?_)
  | (with_reducible show HA _ _ _ _ _
     first | refine ha_nil ?_ | refine ha_cons ?_)
  | (with_reducible show HO2 _ (cB _ .Add) _ _ _ _ _
     first | refine o_add ?_ | refine o_cat (by first | assumption | omega) ?_ | refine o_catO rfl rfl (by first | assumption | omega) ?_)
  | (with_reducible show HO2 _ (cB _ .Sub) _ _ _ _ _
     first | refine o_sub ?_)
  | (with_reducible show HO2 _ (cC _ .Eq) _ _ _ _ _
     first | refine o_eqI ?_ | refine o_eqS ?_ | refine o_eqB ?_)
  | (with_reducible show HO2 _ (cC _ .NotEq) _ _ _ _ _
     first | refine o_neI ?_ | refine o_neS ?_ | refine o_neB ?_)
  | (with_reducible show HO2 _ (cC _ .Lt) _ _ _ _ _
     first | refine o_lt ?_)
  | (with_reducible show HO2 _ (cC _ .LtE) _ _ _ _ _
     first | refine o_le ?_)
  | (with_reducible show HO2 _ (cC _ .Gt) _ _ _ _ _
     first | refine o_gt ?_)
  | (with_reducible show HO2 _ (cC _ .GtE) _ _ _ _ _
     first | refine o_ge ?_)
  | (with_reducible show HO2 _ (cC _ .Is) _ _ _ _ _
     first | refine o_isN ?_)
  | (with_reducible show HO2 _ (cC _ .IsNot) _ _ _ _ _
     first | refine o_notN ?_)
  | (with_reducible show HO2 _ (cC _ .In) _ _ _ _ _
     first | refine o_inS ?_)
  | (with_reducible show HO2 _ (cC _ .NotIn) _ _ _ _ _
     first | refine o_ninS ?_)
  | (with_reducible show HO2 _ (cX _) _ _ _ _ _
     first | refine o_ixL (by first | assumption | rfl) ?_ | refine o_ixT (by first | assumption | rfl) ?_)
  | (with_reducible show HF _ _ _ _ _ _
     first
     | refine hf_lenL ?_ | refine hf_lenT ?_ | refine hf_lenS ⟨by first | assumption | omega, ?_⟩ | refine hf_listL ?_ | refine hf_listT ?_ | refine hf_tupL ?_ | refine hf_tupT ?_ | refine hf_int ?_ | refine hf_intB ?_ | refine hf_strS ?_)
  | (with_reducible show HPo _ _ _ _ _
     first | refine hp_none ?_ | refine hp_some ?_)
  | (with_reducible show HSl _ _ _ _ _ _ _
     first | refine sl_L ?_ | refine sl_S (by first | assumption | omega) ?_)
  | (with_reducible show HGs _ _ _ _ _ _
     first | refine hgs_nil ?_ | refine hgs_cons ?_)
  | (with_reducible show HG _ _ _ _ _ _
     first | refine hg_name _ ⟨Nat.le_of_ble_eq_true rfl, by first | exact pinP _ _ _ | rfl, ?_⟩ | refine hg_tup rfl ?_)
  | (with_reducible show HEb _ _ _ _ _ _
     intro _ _ _ _ _)
  | (with_reducible show HTb _ _ _ _ _ _
     intro _ _ _ _ _)
  | (with_reducible show _ < _ ∧ _ = none ∧ _
     refine ⟨Nat.le_of_ble_eq_true rfl, by first | exact pinP _ _ _ | rfl, ?_⟩)
  | (with_reducible show _ ≤ 100000 ∧ _
     refine ⟨Nat.le_of_ble_eq_true rfl, ?_⟩)
  | (with_reducible show ite (true = true) _ _
     rw [if_pos rfl])
  | (with_reducible show ite (false = true) _ _
     rw [if_neg Bool.false_ne_true])
  | (with_reducible show ite ((!true) = true) _ _
     rw [Bool.not_true, if_neg Bool.false_ne_true])
  | (with_reducible show ite ((!false) = true) _ _
     rw [Bool.not_false, if_pos rfl]))
section
variable {P : Program} {w : World} {K : PySem.W.Frag} {mg : Str → Option Value} {base : Heap} {st cs : Addr} {T : List (Addr × Str)} {C CE CW : Addr}
/-! ### copies -/
def sp_copied (j : Nat) : PSpec := fun ds n KP _ => ∃ d, ds = [d] ∧ okL j d = true ∧ KP n (.frz d)
abbrev Nco : List Str := ["thing", "found", "key", "part"]
theorem sc_copied : FnScope Nco ["thing"] (defScope (top 41)) := ⟨rfl, rfl, rfl, by decide +kernel, rfl, by decide +kernel, by decide +kernel⟩
theorem ok_copied (d : Def1 K mg "_law_copied" (top 41)) (m1 : mg "isinstance" = none) (m2 : mg "list" = none) (m3 : mg "tuple" = none) (m7 : mg "dict" = none) :
    ∀ j, OkF P w K mg base ⟨K, st, cs, T⟩ (j + 1) "_law_copied" ["thing"] (pureSp (sp_copied j)) := by
  have main : ∀ (j k : Nat), (∀ i, j = i + 1 → OkF P w K mg base ⟨K, st, cs, T⟩ k "_law_copied" ["thing"] (pureSp (sp_copied i))) → OkF P w K mg base ⟨K, st, cs, T⟩ (k + 1) "_law_copied" ["thing"] (pureSp (sp_copied j)) := by
    intro j k ih
    refine fn_pure d sc_copied (fun f ds b n KP XP0 hr hl ⟨d, e, hd, hk⟩ hx => ?_) fun _ _ _ _ _ _ us hl => match us, hl with | [_], _ => rfl
    subst e
    have nd := sc_copied.nd
    obtain ⟨hp, hnd⟩ := okL_plain hd
    repeat infer_instance
    refine ⟨hp, _, rfl, iteP ⟨fun h1 => ?_, fun h1 => ?_⟩⟩
    · have e := okDc_inv hnd h1
      subst e
      refine hss_one (hs_ret (he_frz (he_t1 b_dict m7 ?_)))
      refine he_lcD0 0 [("key", 2)] (gName 2) rfl (by first | exact .inl rfl | exact .inr (.inl rfl)) rfl ?_ (blkOk_by (N := Nco) (sc := defScope (top 41)) (by decide +kernel)) nd (fun s H C cl fp => pg_name nd rfl (.inl rfl) (.inr rfl))
      exact hf_frz1 (v := .type "dict") (r := .ol []) (hf_dict0 rfl hk)
    repeat infer_instance
    refine ⟨hp, _, rfl, iteP ⟨fun h2 => ?_, fun h2 => ?_⟩⟩
    · repeat infer_instance
      exact hk
    have h2 : isRow d = true := by simpa using h2
    obtain ⟨i, rfl, hc, hlen⟩ := okL_row hd h2
    repeat infer_instance
    refine hs_lc0 1 (pr_map [("part", 3)] (gName 3) (fun d => .frz d) (hi_rowV 0 rfl (by first | exact .inl rfl | exact .inr (.inl rfl)) rfl h2 ⟨hlen, rfl, fun c hc2 => ?_, by show (1 : Nat) < 4; decide, pinP _ _ _, ?_⟩)) rfl (blkOk_by (N := Nco) (sc := defScope (top 41)) (by decide +kernel)) nd (fun s H C cl fp => pg_name nd rfl (.inl rfl) (.inr rfl)) gi_name (fun i _ => pinP _ _ _)
    · have o := ih i rfl
      repeat infer_instance
      exact ⟨c, rfl, hc c hc2, rfl, rfl, rfl⟩
    repeat infer_instance
    refine ⟨hp, _, rfl, iteP ⟨fun h5 => ?_, fun h5 => ?_⟩⟩
    · refine he_take 1 rfl (.inl rfl) rfl ?_
      rw [od_ol']
      rcases row_cases h2 with e | e
      · rw [e] at hk; exact hk
      · rw [e] at h5; cases h5
    · refine he_t1 b_tuple m3 (he_take 1 rfl (.inl rfl) rfl ?_)
      rw [od_ol']
      refine hf_tupL ?_
      rcases row_cases h2 with e | e
      · rw [e] at h5; cases h5
      · rw [e] at hk; exact hk
  intro j
  induction j with
  | zero => exact main 0 0 (fun i e => by cases e)
  | succ j ih => exact main (j + 1) (j + 1) fun i e => by cases e; exact ih
/-! ### odd things -/
def nothD : List D := [.non, .int 0, .str "a", .lst [], .dct [] [], .bl true, .tup [.int 1, .lst [.str "a"], .lst [], .lst [.int 0], .lst [.int 0]], .lst [.str "a", .str "b"]]
def sp_knothing (st : Addr) : PSpec := fun ds n KP _ => ds = [.opq (.ref st)] ∧ 1 ≤ n ∧ ∀ d ∈ nothD, KP (n - 1) (.frz d)
theorem sc_knothing : FnScope ["stream"] ["stream"] (defScope (top 44)) := ⟨rfl, rfl, rfl, by decide +kernel, rfl, by decide +kernel, by decide +kernel⟩
theorem ok_knothing (k : Nat) (d : Def1 K mg "_law_knothing" (top 44)) (O1 : OkF P w K mg base ⟨K, st, cs, T⟩ k "_law_pick" ["stream", "some"] (pureSp (sp_pick st))) (O2 : OkF P w K mg base ⟨K, st, cs, T⟩ k "_law_copied" ["thing"] (pureSp (sp_copied 2))) :
    OkF P w K mg base ⟨K, st, cs, T⟩ (k + 1) "_law_knothing" ["stream"] (pureSp (sp_knothing st)) := by
  refine fn_pure d sc_knothing (fun f ds b n KP XP0 hr hl ⟨e, hn, hk⟩ hx => ?_) fun _ _ _ _ _ _ us hl => match us, hl with | [_], _ => rfl
  subst e
  have nd := sc_knothing.nd
  repeat infer_instance
  refine ⟨nothD, rfl, by decide, by decide, hn, fun x hx2 => ?_⟩
  have hok : okL 2 x = true := by
    have h : x = .non ∨ x = .int 0 ∨ x = .str "a" ∨ x = .lst [] ∨ x = .dct [] [] ∨ x = .bl true ∨ x = .tup [.int 1, .lst [.str "a"], .lst [], .lst [.int 0], .lst [.int 0]] ∨ x = .lst [.str "a", .str "b"] := by simpa [nothD] using hx2
    rcases h with rfl | rfl | rfl | rfl | rfl | rfl | rfl | rfl <;> rfl
  exact ⟨x, rfl, hok, hk x hx2⟩
def knoD (l : Str) : List D := [.non, .int 5, .lst [.str l], .str "A", .str (l ++ "B"), .str (strRep l 61), .tup [.str l], .bl true, .str (l ++ "\n"), .str (l ++ " "), .str "1"]
def sp_kno_word (st : Addr) : PSpec := fun ds n KP _ => ∃ l ls rs, ds = [.opq (.ref st), rowsD (l :: ls) rs] ∧ l.length = 1 ∧ 1 ≤ n ∧ ∀ d ∈ knoD l, KP (n - 1) (.frz d)
abbrev Nkn : List Str := ["stream", "rules", "letter", "some"]
theorem sc_kno_word : FnScope Nkn ["stream", "rules"] (defScope (top 57)) := ⟨rfl, rfl, rfl, by decide +kernel, rfl, by decide +kernel, by decide +kernel⟩
theorem ok_kno_word (k : Nat) (d : Def1 K mg "_law_kno_word" (top 57)) (O1 : OkF P w K mg base ⟨K, st, cs, T⟩ k "_law_pick" ["stream", "some"] (pureSp (sp_pick st))) (O2 : OkF P w K mg base ⟨K, st, cs, T⟩ k "_law_copied" ["thing"] (pureSp (sp_copied 2))) :
    OkF P w K mg base ⟨K, st, cs, T⟩ (k + 1) "_law_kno_word" ["stream", "rules"] (pureSp (sp_kno_word st)) := by
  refine fn_pure d sc_kno_word (fun f ds b n KP XP0 hr hl ⟨l, ls, rs, e, h1, hn, hk⟩ hx => ?_) fun _ _ _ _ _ _ us hl => match us, hl with | [_, _], _ => rfl
  subst e
  have nd := sc_kno_word.nd
  have a0 : atI [lsD (l :: ls), rsD rs] 0 = some (lsD (l :: ls)) := atI_nat (j := 0) rfl
  have a1 := at0 l ls
  repeat infer_instance
  refine o_cat (by rw [h1]; decide) ?_
  repeat infer_instance
  refine o_mulS (by decide) (by decide) (by rw [h1]; decide) (by rw [h1]; decide) ?_
  repeat infer_instance
  refine o_cat (by rw [h1]; decide) ?_
  repeat infer_instance
  refine o_cat (by rw [h1]; decide) ?_
  repeat infer_instance
  refine he_take 3 rfl (.inl rfl) rfl ?_
  refine ⟨knoD l, rfl, by show (1 : Nat) ≤ 11; decide, by show (11 : Nat) ≤ _; decide, hn, fun x hx2 => ?_⟩
  have hok : okL 2 x = true := by
    have h : x = .non ∨ x = .int 5 ∨ x = .lst [.str l] ∨ x = .str "A" ∨ x = .str (l ++ "B") ∨ x = .str (strRep l 61) ∨ x = .tup [.str l] ∨ x = .bl true ∨ x = .str (l ++ "\n") ∨ x = .str (l ++ " ") ∨ x = .str "1" := by simpa [knoD] using hx2
    rcases h with rfl | rfl | rfl | rfl | rfl | rfl | rfl | rfl | rfl | rfl | rfl <;> rfl
  exact ⟨x, rfl, hok, hk x hx2⟩
/-! ### drawn rules -/
def kLet : List Str := ["a", "b", "c", "d", "x", "y", "z"]
theorem kLet_sm : ∀ x ∈ kLet, isSm x := by
  intro x hx
  have h : x = "a" ∨ x = "b" ∨ x = "c" ∨ x = "d" ∨ x = "x" ∨ x = "y" ∨ x = "z" := by simpa [kLet] using hx
  rcases h with rfl | rfl | rfl | rfl | rfl | rfl | rfl
  · exact ⟨97, rfl, by decide +kernel⟩
  · exact ⟨98, rfl, by decide +kernel⟩
  · exact ⟨99, rfl, by decide +kernel⟩
  · exact ⟨100, rfl, by decide +kernel⟩
  · exact ⟨120, rfl, by decide +kernel⟩
  · exact ⟨121, rfl, by decide +kernel⟩
  · exact ⟨122, rfl, by decide +kernel⟩
theorem kLet_nd : kLet.Nodup := by decide +kernel
def sp_kletters (st : Addr) : PSpec := fun ds n KP _ => ds = [.opq (.ref st)] ∧ 8 ≤ n ∧ ∀ ls, LsOk ls → KP (n - 8) (strsO ls)
theorem sc_kletters : FnScope ["stream"] ["stream"] (defScope (top 46)) := ⟨rfl, rfl, rfl, by decide +kernel, rfl, by decide +kernel, by decide +kernel⟩
theorem ok_kletters (k : Nat) (d : Def1 K mg "_law_kletters" (top 46)) (O1 : OkF P w K mg base ⟨K, st, cs, T⟩ k "_law_pick" ["stream", "some"] (pureSp (sp_pick st))) (O2 : OkF P w K mg base ⟨K, st, cs, T⟩ k "_law_mixed" ["stream", "some"] (pureSp (sp_mixed st))) (m11 : mg "sorted" = none) :
    OkF P w K mg base ⟨K, st, cs, T⟩ (k + 1) "_law_kletters" ["stream"] (pureSp (sp_kletters st)) := by
  refine fn_pure d sc_kletters (fun f ds b n KP XP0 hr hl ⟨e, hn, hk⟩ hx => ?_) fun _ _ _ _ _ _ us hl => match us, hl with | [_], _ => rfl
  subst e
  have nd := sc_kletters.nd
  repeat infer_instance
  refine ⟨kLet.map .str, rfl, by decide, by show (7 : Nat) ≤ n; omega, fun ys hys => ?_⟩
  obtain ⟨us, rfl, hus⟩ := perm_map_inv D.str hys rfl
  refine hp_none (hp_some ?_)
  repeat infer_instance
  refine ⟨[1, 2, 2, 2, 3].map fun i : Nat => D.int (i : Int), rfl, by decide, by decide, by show 1 ≤ n - 7; omega, fun x hx2 => ?_⟩
  obtain ⟨m, hm, rfl⟩ := List.mem_map.mp hx2
  have hm2 : 1 ≤ m ∧ m ≤ 3 := by
    have : m = 1 ∨ m = 2 ∨ m = 3 := by simpa using hm
    omega
  refine ⟨_, rfl, ?_⟩
  have hul : us.length = 7 := hus.length_eq
  refine hsl_fz ?_
  rw [show (OT.ol ((us.map D.str).map .frz)).d = lsD us from strsO_d us]
  refine sl_L (hf_ol ?_)
  have ec : cut (us.map D.str) none (some (m : Int)) = (us.take m).map D.str := by rw [cut_take, List.map_take]
  rw [ec]
  have htl : (us.take m).length = m := by rw [List.length_take]; omega
  refine hf_sortS (by omega) fun ls hp hs => ?_
  show KP (n - 7 - 1) _
  rw [show n - 7 - 1 = n - 8 by omega]
  refine hk ls ⟨?_, ?_, fun x hx => ?_, ?_, hs⟩
  · rw [hp.length_eq, htl]; exact hm2.1
  · rw [hp.length_eq, htl]; exact hm2.2
  · exact kLet_sm x (hus.mem_iff.mp (List.mem_of_mem_take (hp.mem_iff.mp hx)))
  · exact hp.nodup_iff.mpr ((hus.nodup_iff.mpr kLet_nd).sublist (List.take_sublist _ _))
/-- one drawn rule -/
def sp_kpair (st : Addr) : PSpec := fun ds n KP _ => ∃ ls, ds = [.opq (.ref st), lsD ls] ∧ LsOk ls ∧ 9 ≤ n ∧ ∀ n' p, n ≤ n' + 9 → n' ≤ n → RuOk ls p → KP n' (.frz (ruD p))
abbrev Nkp : List Str := ["stream", "letters", "size", "left", "at"]
theorem sc_kpair : FnScope Nkp ["stream", "letters"] (defScope (top 47)) := ⟨rfl, rfl, rfl, by decide +kernel, rfl, by decide +kernel, by decide +kernel⟩
theorem ok_kpair (k : Nat) (d : Def1 K mg "_law_kpair" (top 47)) (O1 : OkF P w K mg base ⟨K, st, cs, T⟩ k "_law_pick" ["stream", "some"] (pureSp (sp_pick st))) (mr : mg "range" = none) :
    OkF P w K mg base ⟨K, st, cs, T⟩ (k + 1) "_law_kpair" ["stream", "letters"] (pureSp (sp_kpair st)) := by
  refine fn_pure d sc_kpair (fun f ds b n KP XP0 hr hl ⟨ls, e, hls, hn, hk⟩ hx => ?_) fun _ _ _ _ _ _ us hl => match us, hl with | [_, _], _ => rfl
  subst e
  have nd := sc_kpair.nd
  have hl1 : 1 ≤ ls.length := hls.1
  have hl3 : ls.length ≤ 3 := hls.2.1
  have hsm := hls.2.2.1
  repeat infer_instance
  refine ⟨[2, 2, 2, 3, 3, 4, 6, 1].map fun i : Nat => D.int (i : Int), rfl, by decide, by decide, by omega, fun x hx2 => ?_⟩
  obtain ⟨m, hm, rfl⟩ := List.mem_map.mp hx2
  have hm2 : 1 ≤ m ∧ m ≤ 6 := by
    have : m = 2 ∨ m = 3 ∨ m = 4 ∨ m = 6 ∨ m = 1 := by simpa using hm
    omega
  repeat infer_instance
  have gl : ((List.range (m : Int).toNat).map fun i : Nat => D.int (i : Int)).length = m := by rw [List.length_map, List.length_range]; rfl
  refine he_lc0 [("at", 4)] (gName 4) (hi_range1 mr (ha_cons (he_v 2 rfl rfl (ha_nil ⟨_, rfl, by omega, by omega, by have := gl; omega, rfl, fun i2 acc n2 Γ2 => ∃ ys : List Str, acc = (ys.map D.str).map .frz ∧ ys.length = i2 ∧ (∀ y ∈ ys, y ∈ ls) ∧ n2 + (i2 + 1) = n ∧ Γ2 = [some (.frz (.opq (.ref st))), some (.frz (lsD ls)), some (.frz (.int (m : Int))), none, none], ⟨[], rfl, rfl, fun _ h => by simp at h, by show n - 1 + (0 + 1) = n; omega, rfl⟩, ?_, ?_⟩)))) (blkOk_by (N := Nkp) (sc := defScope (top 47)) (by decide +kernel)) nd (fun s H C cl fp => pg_name nd rfl (.inl rfl) (.inr rfl)) gi_name (fun i _ => pinP _ _ _)
  · rintro i2 acc n2 Γ2 d2 hd2 ⟨ys, rfl, hy, hin, hn2, rfl⟩
    have hi2 : i2 < m := by
      have := (List.getElem?_eq_some_iff.mp hd2).1
      rw [gl] at this
      exact this
    repeat infer_instance
    refine ⟨ls.map .str, rfl, by rw [List.length_map]; exact hl1, by rw [List.length_map]; omega, by omega, fun x hx => ?_⟩
    obtain ⟨l, hl, rfl⟩ := List.mem_map.mp hx
    refine ⟨ys ++ [l], by rw [List.map_append, List.map_append]; rfl, by rw [List.length_append, hy]; rfl, fun y hy => ?_, by omega, rfl⟩
    rcases List.mem_append.mp hy with h | h
    · exact hin y h
    · have : y = l := by simpa using h
      rw [this]; exact hl
  rintro acc n2 Γ2 ⟨ys, rfl, hy, hin, hn2, rfl⟩
  have hy : ys.length = m := by rw [hy, gl]
  rw [gl] at hn2
  have hlw : LayW ls (Str.join ("" : Str) ys) := LayW.join fun y h => LayW.one (hin y h) (hsm y (hin y h))
  obtain ⟨a1, a2, a3⟩ := join_ok hsm hin (by omega)
  refine ⟨ys, strsO_d ys, ?_, ?_⟩
  · have : (ys.map (·.length)).sum = ys.length * 1 := sum_const fun y h => by
      obtain ⟨c, rfl, _⟩ := hsm y (hin y h)
      rfl
    rw [this, hy]
    show _ + m * 0 ≤ _
    omega
  rw [show Txt.join (Str.ofString "") ys = Str.join ("" : Str) ys from StrLaws.glued_eq_join _ _]
  generalize Str.join ("" : Str) ys = left at hlw a2
  repeat infer_instance
  refine iteP ⟨fun h1 => ?_, fun h1 => ?_⟩
  · have h1 : (1 : Int) < (m : Int) := of_decide_eq_true h1
    refine he_c2 O1 hr rfl (he_v 0 rfl rfl (he_bin (he_frz (he_list (ha_cons (he_str (ha_nil ⟨by show (1 : Nat) ≤ 100000; decide, ?_⟩)))))))
    repeat infer_instance
    refine o_catL (ds := [.str ""]) (es := ls.map .str) (by rw [List.length_map]; show 1 + ls.length ≤ _; omega) ?_
    refine ⟨[.str ""] ++ ls.map .str, by rw [od_ol']; rfl, by rw [List.length_append]; show 1 ≤ 1 + _; omega, by rw [List.length_append, List.length_map]; show 1 + ls.length ≤ _; omega, by omega, fun x hx2 => ?_⟩
    obtain ⟨z, rfl, hz1, hz2⟩ : ∃ z : Str, x = .str z ∧ LayW ls z ∧ z.length ≤ 1 := by
      rcases List.mem_append.mp hx2 with h | h
      · have : x = .str "" := by simpa using h
        exact ⟨("" : Str), this, LayW.nil ls, by decide⟩
      · obtain ⟨z, hz, rfl⟩ := List.mem_map.mp h
        have hs := hsm z hz
        obtain ⟨c, rfl, _⟩ := hs
        exact ⟨_, rfl, LayW.one hz (hsm _ hz), Nat.le_refl _⟩
    repeat infer_instance
    exact hk _ (left, z) (by omega) (by omega) (RuOk.of hlw hz1 (by show left.length ≤ 6; omega) hz2 (by show z.length < left.length; omega))
  · have h1 : ¬ (1 : Int) < (m : Int) := of_decide_eq_false h1
    repeat infer_instance
    exact hk _ (left, "") (by omega) (by omega) (RuOk.of hlw (LayW.nil ls) (by show left.length ≤ 6; omega) (by show (0 : Nat) ≤ 1; decide) (by show 0 < left.length; omega))
end
end K03

set_option Elab.async false
set_option linter.all false
set_option maxRecDepth 100000
set_option maxHeartbeats 4000000
namespace K03
open PySem PySem.Spec PyProof.Rows L2 DL Evl
local macro_rules
| `(tactic| infer_instance) => `(tactic| first
  | (with_reducible show ∃ _, OT.frz _ = _ ∧ _
     refine ⟨_, rfl, ?_⟩)
  | (with_reducible show ∃ _, OT.d (OT.frz _) = _ ∧ _
     refine ⟨_, rfl, ?_⟩)
  | (with_reducible show HSs _ _ _ _ _
     first | refine hss_nil ?_ | refine hss_one ?_ | refine hss_cons ?_)
  | (with_reducible show HS _ _ _ _ _
     first
     | refine hs_ret ?_ | refine hs_if ?_ | refine hs_expr ?_ | refine hs_retN ?_ | refine hs_pass ?_ | refine hs_break ?_ | refine hs_continue ?_
     | refine hs_set 0 ?_ (by assumption) rfl (by first | exact .inl rfl | exact .inr rfl)
     | refine hs_set 1 ?_ (by assumption) rfl (by first | exact .inl rfl | exact .inr rfl)
     | refine hs_set 2 ?_ (by assumption) rfl (by first | exact .inl rfl | exact .inr rfl)
     | refine hs_set 3 ?_ (by assumption) rfl (by first | exact .inl rfl | exact .inr rfl)
     | refine hs_set 4 ?_ (by assumption) rfl (by first | exact .inl rfl | exact .inr rfl)
     | refine hs_set 5 ?_ (by assumption) rfl (by first | exact .inl rfl | exact .inr rfl)
     | refine hs_set 6 ?_ (by assumption) rfl (by first | exact .inl rfl | exact .inr rfl)
     | refine hs_set 7 ?_ (by assumption) rfl (by first | exact .inl rfl | exact .inr rfl)
     | refine hs_set 8 ?_ (by assumption) rfl (by first | exact .inl rfl | exact .inr rfl)
     | refine hs_set 9 ?_ (by assumption) rfl (by first | exact .inl rfl | exact .inr rfl)
     | refine hs_set 10 ?_ (by assumption) rfl (by first | exact .inl rfl | exact .inr rfl)
     | refine hs_set 11 ?_ (by assumption) rfl (by first | exact .inl rfl | exact .inr rfl)
     | refine hs_set 12 ?_ (by assumption) rfl (by first | exact .inl rfl | exact .inr rfl)
     | refine hs_set 13 ?_ (by assumption) rfl (by first | exact .inl rfl | exact .inr rfl)
     | refine hs_set 14 ?_ (by assumption) rfl (by first | exact .inl rfl | exact .inr rfl))
  | (with_reducible show HE _ (.Name _ _) _ _ _
     first
     | refine he_v 0 rfl rfl ?_ | refine he_v 1 rfl rfl ?_ | refine he_v 2 rfl rfl ?_ | refine he_v 3 rfl rfl ?_ | refine he_v 4 rfl rfl ?_
     | refine he_v 5 rfl rfl ?_ | refine he_v 6 rfl rfl ?_ | refine he_v 7 rfl rfl ?_ | refine he_v 8 rfl rfl ?_ | refine he_v 9 rfl rfl ?_
     | refine he_v 10 rfl rfl ?_ | refine he_v 11 rfl rfl ?_ | refine he_v 12 rfl rfl ?_ | refine he_v 13 rfl rfl ?_ | refine he_v 14 rfl rfl ?_
     | refine he_gint (by assumption) rfl ?_ | refine he_gstr (by assumption) rfl ?_)
  | (with_reducible show HE _ (.Constant _ _ _) _ _ _
     first | refine he_int ?_ | refine he_str ?_ | refine he_bl ?_ | refine he_non ?_)
  | (with_reducible show HE _ (.Call (.Name _ _) _ _ _) _ _ _
     first
     | refine he_c1 (by assumption) (by assumption) rfl ?_
     | refine he_c2 (by assumption) (by assumption) rfl ?_
     | refine he_c3 (by assumption) (by assumption) rfl ?_
     | refine he_isRow (by assumption) (by assumption) (by assumption) ?_
     | refine he_isi isInt T_isInt b_int (by assumption) (by assumption) ?_
     | refine he_isi isBl T_isBl b_bool (by assumption) (by assumption) ?_
     | refine he_isi isStr T_isStr b_str (by assumption) (by assumption) ?_
     | refine he_isi isLst T_isLst b_list (by assumption) (by assumption) ?_
     | refine he_isi isTup T_isTup b_tuple (by assumption) (by assumption) ?_
     | refine he_isi isDct T_isDct b_dict (by assumption) (by assumption) ?_
     | refine he_f1 b_len (by assumption) ?_
     | refine he_f1 b_all (by assumption) ?_
     | refine he_f1 b_any (by assumption) ?_
     | refine he_f1 b_sorted (by assumption) ?_
     | refine he_t1 b_list (by assumption) ?_
     | refine he_t1 b_tuple (by assumption) ?_
     | refine he_t1 b_int (by assumption) ?_
     | refine he_t1 b_str (by assumption) ?_)
  | (with_reducible show HE _ (.BinOp _ _ _ _) _ _ _
     refine he_bin ?_)
  | (with_reducible show HE _ (.Compare _ _ _ _) _ _ _
     first | refine he_cmp ?_ | refine he_chain ?_)
  | (with_reducible show HE _ (.UnaryOp _ _ _) _ _ _
     first | refine he_not ?_ | refine he_neg (i := 0) ?_)
  | (with_reducible show HE _ (.IfExp _ _ _ _) _ _ _
     refine he_if ?_)
  | (with_reducible show HE _ (.Subscript _ _ _) _ _ _
     first | refine he_sl ?_ | refine he_ix ?_)
  | (with_reducible show HE _ (.Tuple _ _ _) _ _ _
     refine he_frz (he_tup ?_))
  | (with_reducible show HE _ (.List _ _) _ _ _
     refine he_list ?_)
  | (with_reducible show HE _ (.BoolOp _ _ _) _ _ _
     first | refine he_one ?_ | refine he_and ?_ | refine he_or ?_)
  | (with_reducible show HE _ (.Dict [] [] _) _ _ _
     refine he_dct0 ?_)
  | (with_reducible show HE _ (.Call (.Attribute _ _ _) _ _ _) _ _ _
     first | refine he_join ?_ | refine he_starts3 ?_)
  | (with_reducible show HE _ (.Attribute _ _ _) _ _ _
     refine he_fld ?_)
  | (with_reducible show ∃ _ _ _ _, OT.frz _ = _ ∧ Cls _ _ ∧ _
     refine ⟨_, _, _, _, rfl, by assumption, by assumption, rfl, ?_⟩)
  | (with_reducible show ∃ _ _, [OT.frz _, OT.frz _] = [OT.frz (.str _), OT.frz (.int _)] ∧ _
     refine ⟨_, _, rfl, ?_⟩)
  | (with_reducible show HT _ (.Name _ _) _ _ _
     refine ht_bl ?_
     infer_instance
     with_reducible refine ⟨_, rfl, ?_⟩)
  | (with_reducible show HT _ (.Call _ _ _ _) _ _ _
     refine ht_bl ?_)
  | (with_reducible show HT _ _ _ _ _
     first
     | refine ht_not ?_ | refine ht_cmp ?_ | refine ht_chain ?_ | (refine ht_w ?_; first | refine hw_and ?_ | refine hw_or ?_))
  | (with_reducible show HW _ _ _ _ _
     first | refine hw_and1 ?_ | refine hw_or1 ?_ | refine hw_and ?_ | refine hw_or ?_)
  | (with_reducible show HA _ _ _ _ _
     first | refine ha_nil ?_ | refine ha_cons ?_)
  | (with_reducible show HO2 _ (cB _ .Add) _ _ _ _ _
     first | refine o_add ?_ | refine o_cat (by first | assumption | omega) ?_ | refine o_catO rfl rfl (by first | assumption | omega) ?_)
  | (with_reducible show HO2 _ (cB _ .Sub) _ _ _ _ _
     first | refine o_sub ?_)
  | (with_reducible show HO2 _ (cC _ .Eq) _ _ _ _ _
     first | refine o_eqI ?_ | refine o_eqS ?_ | refine o_eqB ?_)
  | (with_reducible show HO2 _ (cC _ .NotEq) _ _ _ _ _
     first | refine o_neI ?_ | refine o_neS ?_ | refine o_neB ?_)
  | (with_reducible show HO2 _ (cC _ .Lt) _ _ _ _ _
     first | refine o_lt ?_)
  | (with_reducible show HO2 _ (cC _ .LtE) _ _ _ _ _
     first | refine o_le ?_)
  | (with_reducible show HO2 _ (cC _ .Gt) _ _ _ _ _
     first | refine o_gt ?_)
  | (with_reducible show HO2 _ (cC _ .GtE) _ _ _ _ _
     first | refine o_ge ?_)
  | (with_reducible show HO2 _ (cC _ .Is) _ _ _ _ _
     first | refine o_isN ?_)
  | (with_reducible show HO2 _ (cC _ .IsNot) _ _ _ _ _
     first | refine o_notN ?_)
  | (with_reducible show HO2 _ (cC _ .In) _ _ _ _ _
     first | refine o_inS ?_)
  | (with_reducible show HO2 _ (cC _ .NotIn) _ _ _ _ _
     first | refine o_ninS ?_)
  | (with_reducible show HO2 _ (cX _) _ _ _ _ _
     first | refine o_ixL (by first | assumption | rfl) ?_ | refine o_ixT (by first | assumption | rfl) ?_)
  | (with_reducible show HF _ _ _ _ _ _
     first
     | refine hf_lenL ?_ | refine hf_lenT ?_ | refine hf_lenS ⟨by first | assumption | omega, ?_⟩ | refine hf_listL ?_ | refine hf_listT ?_ | refine hf_tupL ?_ | refine hf_tupT ?_ | refine hf_int ?_ | refine hf_intB ?_ | refine hf_strS ?_)
  | (with_reducible show HPo _ _ _ _ _
     first | refine hp_none ?_ | refine hp_some ?_)
  | (with_reducible show HSl _ _ _ _ _ _ _
     first | refine sl_L ?_ | refine sl_S (by first | assumption | omega) ?_)
  | (with_reducible show HGs _ _ _ _ _ _
     first | refine hgs_nil ?_ | refine hgs_cons ?_)
  | (with_reducible show HG _ _ _ _ _ _
     first | refine hg_name _ ⟨Nat.le_of_ble_eq_true rfl, by first | exact pinP _ _ _ | rfl, ?_⟩ | refine hg_tup rfl ?_)
  | (with_reducible show HEb _ _ _ _ _ _
     intro _ _ _ _ _)
  | (with_reducible show HTb _ _ _ _ _ _
     intro _ _ _ _ _)
  | (with_reducible show _ < _ ∧ _ = none ∧ _
     refine ⟨Nat.le_of_ble_eq_true rfl, by first | exact pinP _ _ _ | rfl, ?_⟩)
  | (with_reducible show _ ≤ 100000 ∧ _
     refine ⟨Nat.le_of_ble_eq_true rfl, ?_⟩)
  | (with_reducible show ite (true = true) _ _
     rw [if_pos rfl])
  | (with_reducible show ite (false = true) _ _
     rw [if_neg Bool.false_ne_true])
  | (with_reducible show ite ((!true) = true) _ _
     rw [Bool.not_true, if_neg Bool.false_ne_true])
  | (with_reducible show ite ((!false) = true) _ _
     rw [Bool.not_false, if_pos rfl]))
theorem RsOk.nil (ls : List Str) : RsOk ls [] := ⟨by decide, List.nodup_nil, fun _ h => by simp at h⟩
theorem RsOk.snoc {ls : List Str} {rs : List Ru} {p : Ru} (h : RsOk ls rs) (hl : rs.length < 8) (hp : RuOk ls p) (hn : p ∉ rs) : RsOk ls (rs ++ [p]) := by
  refine ⟨by rw [List.length_append]; show rs.length + 1 ≤ 8; omega, List.nodup_append.mpr ⟨h.2.1, List.nodup_cons.mpr ⟨by simp, List.nodup_nil⟩, fun x hx y hy e => ?_⟩, fun q hq => ?_⟩
  · have : y = p := by simpa using hy
    exact hn (this ▸ e ▸ hx)
  · rcases List.mem_append.mp hq with h1 | h1
    · exact h.2.2 q h1
    · have : q = p := by simpa using h1
      exact this ▸ hp
theorem rsD_app (a b : List Ru) : D.lst (a.map ruD ++ b.map ruD) = rsD (a ++ b) := by show _ = D.lst ((a ++ b).map ruD); rw [List.map_append]
theorem sm_len {x : Str} (h : isSm x) : x.length = 1 := by
  obtain ⟨c, rfl, _⟩ := h
  rfl
theorem two_inj {a b c d : Str} (ha : isSm a) (hb : isSm b) (hc : isSm c) (hd : isSm d) (h : a ++ b = c ++ d) : a = c ∧ b = d := by
  obtain ⟨x, rfl, _⟩ := ha
  obtain ⟨y, rfl, _⟩ := hb
  obtain ⟨z, rfl, _⟩ := hc
  obtain ⟨u, rfl, _⟩ := hd
  have e : [x, y] = [z, u] := congrArg (fun s : Str => s.cps.toList) h
  simp at e
  exact ⟨by rw [e.1], by rw [e.2]⟩
theorem ru_two {ls : List Str} (hls : LsOk ls) {a b : Str} (ha : a ∈ ls) (hb : b ∈ ls) : RuOk ls (a ++ b, "") := by
  have hs := hls.2.2.1 a ha
  have ht := hls.2.2.1 b hb
  have e : (a ++ b).length = 2 := by rw [str_len_app, sm_len hs, sm_len ht]
  exact RuOk.of ((LayW.one ha hs).app (LayW.one hb ht)) (LayW.nil ls) (by show (a ++ b).length ≤ 6; omega) (by show (0 : Nat) ≤ 1; decide) (by show 0 < (a ++ b).length; omega)
theorem cat_sm {a b : Str} (ha : isSm a) (hb : isSm b) : a.length + b.length ≤ sizeLine := by rw [sm_len ha, sm_len hb]; decide
section
variable {P : Program} {w : World} {K : PySem.W.Frag} {mg : Str → Option Value} {base : Heap} {st cs : Addr} {T : List (Addr × Str)} {C CE CW : Addr}
def sp_krules (st : Addr) : PSpec := fun ds n KP _ => ds = [.opq (.ref st)] ∧ 90 ≤ n ∧ ∀ n' ls rs r, n ≤ n' + 90 → n' ≤ n → LsOk ls → RsOk ls rs → r.d = rowsD ls rs → KP n' r
abbrev Nkr : List Str := ["stream", "letters", "found", "turn", "pair", "one", "two", "some"]
theorem sc_krules : FnScope Nkr ["stream"] (defScope (top 48)) := ⟨rfl, rfl, rfl, by decide +kernel, rfl, by decide +kernel, by decide +kernel⟩
theorem ok_krules (k : Nat) (d : Def1 K mg "_law_krules" (top 48)) (O1 : OkF P w K mg base ⟨K, st, cs, T⟩ k "_law_kletters" ["stream"] (pureSp (sp_kletters st))) (O2 : OkF P w K mg base ⟨K, st, cs, T⟩ k "_law_pick" ["stream", "some"] (pureSp (sp_pick st)))
    (O3 : OkF P w K mg base ⟨K, st, cs, T⟩ k "_law_kpair" ["stream", "letters"] (pureSp (sp_kpair st))) (O4 : OkF P w K mg base ⟨K, st, cs, T⟩ k "_law_chance" ["stream", "many"] (pureSp (sp_chance st))) (mr : mg "range" = none) (ml : mg "len" = none) :
    OkF P w K mg base ⟨K, st, cs, T⟩ (k + 1) "_law_krules" ["stream"] (pureSp (sp_krules st)) := by
  refine fn_pure d sc_krules (fun f ds b n KP XP0 hr hl ⟨e, hn, hk⟩ hx => ?_) fun _ _ _ _ _ _ us hl => match us, hl with | [_], _ => rfl
  subst e
  have nd := sc_krules.nd
  refine hss_cons (hs_par 1 2 (ha_cons (he_frz ?_)) nd rfl rfl (by decide) (pinP _ _ _) (pinP _ _ _))
  repeat infer_instance
  refine ⟨rfl, by omega, fun ls hls => ?_⟩
  refine ha_cons (he_nilF ?_)
  repeat infer_instance
  refine ⟨.frz (lsD ls), .frz (.lst []), by show [OT.frz (OT.d (strsO ls)), _] = _; rw [strsO_d], by show (1 : Nat) < 8; decide, by show (2 : Nat) < 8; decide, ?_⟩
  have hl1 : 1 ≤ ls.length := hls.1
  have hl3 : ls.length ≤ 3 := hls.2.1
  have hsm := hls.2.2.1
  refine hss_cons (hs_for (g := gName 3) (hi_range1 mr (ha_cons ?_)) (pg_name nd rfl (.inl rfl) (.inr rfl)))
  repeat infer_instance
  refine ⟨[0, 1, 2, 2, 3, 3, 4, 8].map fun i : Nat => D.int (i : Int), rfl, by decide, by decide, by omega, fun x hx2 => ?_⟩
  obtain ⟨m, hm, rfl⟩ := List.mem_map.mp hx2
  have hm8 : m ≤ 8 := by
    have : m = 0 ∨ m = 1 ∨ m = 2 ∨ m = 3 ∨ m = 4 ∨ m = 8 := by simpa using hm
    omega
  refine ha_nil ⟨_, rfl, by omega, by omega, fun i n' Γ' => n' ≤ n ∧ n ≤ n' + 9 + 9 * i ∧ ∃ rs x y, rs.length ≤ i ∧ RsOk ls rs ∧ Γ' = [some (.frz (.opq (.ref st))), some (.frz (lsD ls)), some (.frz (rsD rs)), x, y, none, none, none], ⟨by omega, by omega, [], none, none, by decide, RsOk.nil ls, rfl⟩, ?_, ?_⟩
  · rintro i n' Γ' dd hdd ⟨q1, q2, rs, x, y, r1, r2, rfl⟩
    have hi : i < m := by
      have := (List.getElem?_eq_some_iff.mp hdd).1
      rw [List.length_map, List.length_range] at this
      omega
    repeat infer_instance
    refine ⟨ls, rfl, hls, by omega, fun n2 p p1 p2 hp => ⟨by show (4 : Nat) < 8; decide, pinP _ _ _, ?_⟩⟩
    refine hss_one (hs_set 2 (he_frzL (he_bin (he_v 2 rfl rfl (he_if (ht_cmp ?_))))) nd rfl (.inl rfl))
    refine he_v 4 rfl rfl (he_v 2 rfl rfl (o_ninD (p := ruP p) (qs := rs.map ruP) rfl (toPs_rus _) (sh_ru hp) (sh_rus r2.2.2) (by show b.S.X.A.units + 65 < cLine; have := hr.un; omega) ⟨_, rfl, ?_⟩))
    rw [any_ru]
    refine iteP ⟨fun hb => ?_, fun hb => ?_⟩
    · have hnm : p ∉ rs := by simpa using hb
      refine he_frz (he_list (ha_cons (he_v 4 rfl rfl (ha_nil ⟨by show (1 : Nat) ≤ 100000; decide, ?_⟩))))
      refine o_catL (es := [ruD p]) (by rw [List.length_map]; show rs.length + 1 ≤ _; omega) ⟨(rs ++ [p]).map ruD, by rw [List.map_append, List.map_append, List.map_append]; rfl, by show (2 : Nat) < 8; decide, pinP _ _ _, by omega, by omega, rs ++ [p], some (.frz dd), some (.frz (ruD p)), by rw [List.length_append]; show rs.length + 1 ≤ _; omega, r2.snoc (by omega) hp hnm, rfl⟩
    · refine he_nilF (o_catL (es := []) (by rw [List.length_map]; show rs.length + 0 ≤ _; omega) ⟨rs.map ruD, by rw [List.append_nil], by show (2 : Nat) < 8; decide, pinP _ _ _, by omega, by omega, rs, some (.frz dd), some (.frz (ruD p)), by omega, r2, rfl⟩)
  rintro n' Γ' ⟨q1, q2, rs, x, y, r1, r2, rfl⟩
  rw [List.length_map, List.length_range, Int.toNat_natCast] at q2
  refine hss_cons (hs_post (fun n3 Γ3 => n3 ≤ n' ∧ n' ≤ n3 + 2 ∧ ∃ rs x y z u v, RsOk ls rs ∧ Γ3 = [some (.frz (.opq (.ref st))), some (.frz (lsD ls)), some (.frz (rsD rs)), x, y, z, u, v]) (hs_if (HT.mono (K' := fun n3 Γ3 c => n3 ≤ n' ∧ n' ≤ n3 + 1 ∧ Γ3 = [some (.frz (.opq (.ref st))), some (.frz (lsD ls)), some (.frz (rsD rs)), x, y, none, none, none] ∧ (c = true → 1 < ls.length)) ?_ ?_)) ?_)
  · repeat infer_instance
    refine iteP ⟨fun h1 => ?_, fun _ => ⟨Nat.le_refl _, by omega, rfl, fun h => by cases h⟩⟩
    have h1 : (1 : Int) < ((ls.map D.str).length : Int) := of_decide_eq_true h1
    rw [List.length_map] at h1
    repeat infer_instance
    refine ⟨4, rfl, by decide, by decide, by omega, fun c => ?_⟩
    exact ⟨c, rfl, by omega, by omega, rfl, fun _ => by omega⟩
  · rintro n3 Γ3 c ⟨p1, p2, rfl, h1⟩
    refine iteP ⟨fun hc => ?_, fun _ => hss_nil ⟨p1, by omega, rs, _, _, _, _, _, r2, rfl⟩⟩
    obtain ⟨a, a2, rest, rfl⟩ : ∃ a a2 rest, ls = a :: a2 :: rest := by
      match ls, h1 hc with
      | [_], h => exact absurd h (by simp)
      | a :: a2 :: rest, _ => exact ⟨a, a2, rest, rfl⟩
    have ha : a ∈ a :: a2 :: rest := by simp
    have ha2 : a2 ∈ a :: a2 :: rest := by simp
    have hne : a ≠ a2 := by
      have := hls.2.2.2.1
      simp at this
      exact this.1.1
    have c01 := cat_sm (hsm a ha) (hsm a2 ha2)
    have c10 := cat_sm (hsm a2 ha2) (hsm a ha)
    have c00 := cat_sm (hsm a ha) (hsm a ha)
    have c11 := cat_sm (hsm a2 ha2) (hsm a2 ha2)
    have t1 := ru_two hls ha ha2
    have t2 := ru_two hls ha2 ha
    have t3 := ru_two hls ha ha
    have t4 := ru_two hls ha2 ha2
    refine hss_cons (hs_unpL [5, 6] (he_sl (he_v 1 rfl rfl (hp_none (hp_some (he_int ⟨2, rfl, sl_L ?_⟩))))) (pgs_cons (pg_name nd rfl (.inl rfl) (.inr rfl)) (pgs_cons (pg_name nd rfl (.inl rfl) (.inr rfl)) pgs_nil)))
    refine ⟨[.str a, .str a2], od_take _ 2, rfl, fun j hj => ⟨?_, pinP _ _ _⟩, ?_⟩
    · have : j = 5 ∨ j = 6 := by simpa using hj
      show j < 8
      omega
    refine hss_cons (hs_set 7 (he_frz ?_) nd rfl (.inl rfl))
    repeat infer_instance
    have g0 : RsOk (a :: a2 :: rest) [] := RsOk.nil _
    have g1 := g0.snoc (by decide) t1 (by simp)
    have g2 := g1.snoc (by show (1 : Nat) < 8; decide) t2 (fun h => hne (two_inj (hsm a2 ha2) (hsm a ha) (hsm a ha) (hsm a2 ha2) (congrArg Prod.fst (List.mem_singleton.mp h))).2)
    have g3 := g0.snoc (by decide) t3 (by simp)
    have g4 := g3.snoc (by show (1 : Nat) < 8; decide) t4 (fun h => hne (two_inj (hsm a2 ha2) (hsm a2 ha2) (hsm a ha) (hsm a ha) (congrArg Prod.fst (List.mem_singleton.mp h))).1.symm)
    refine o_catO (ds := [rsD [(a ++ a2, "")], rsD [(a ++ a2, ""), (a2 ++ a, "")]]) (es := [rsD [(a ++ a, ""), (a2 ++ a2, "")]]) rfl rfl (by show (3 : Nat) ≤ 100000; decide) ?_
    refine ⟨[rsD [(a ++ a2, "")], rsD [(a ++ a2, ""), (a2 ++ a, "")], rsD [(a ++ a, ""), (a2 ++ a2, "")]], rfl, by show (1 : Nat) ≤ 3; decide, by show (3 : Nat) ≤ 1048576; decide, by omega, fun x0 hx0 => ⟨by show (2 : Nat) < 8; decide, pinP _ _ _, ?_⟩⟩
    rcases hx0 with _ | ⟨_, _ | ⟨_, _ | ⟨_, h⟩⟩⟩
    · exact ⟨by omega, by omega, _, _, _, _, _, _, g1, rfl⟩
    · exact ⟨by omega, by omega, _, _, _, _, _, _, g2, rfl⟩
    · exact ⟨by omega, by omega, _, _, _, _, _, _, g4, rfl⟩
    · cases h
  rintro n3 Γ3 ⟨p1, p2, rs', x, y, z, u, v, hrs, rfl⟩
  repeat infer_instance
  exact hk _ ls rs' _ (by omega) (by omega) hls hrs rfl
end
end K03

set_option Elab.async false
set_option linter.all false
set_option maxRecDepth 100000
set_option maxHeartbeats 4000000
namespace K03
open PySem PySem.Spec PyProof.Rows L2 DL Evl
local macro_rules
| `(tactic| infer_instance) => `(tactic| first
  | (with_reducible show ∃ _, OT.frz _ = _ ∧ _
     refine ⟨_, rfl, ?_⟩)
  | (with_reducible show ∃ _, OT.d (OT.frz _) = _ ∧ _
     refine ⟨_, rfl, ?_⟩)
  | (with_reducible show HSs _ _ _ _ _
     first | refine hss_nil ?_ | refine hss_one ?_ | refine hss_cons ?_)
  | (with_reducible show HS _ _ _ _ _
     first
     | refine hs_ret ?_ | refine hs_if ?_ | refine hs_expr ?_ | refine hs_retN ?_ | refine hs_pass ?_ | refine hs_break ?_ | refine hs_continue ?_
     | refine hs_set 0 ?_ (by assumption) rfl (by first | exact .inl rfl | exact .inr rfl)
     | refine hs_set 1 ?_ (by assumption) rfl (by first | exact .inl rfl | exact .inr rfl)
     | refine hs_set 2 ?_ (by assumption) rfl (by first | exact .inl rfl | exact .inr rfl)
     | refine hs_set 3 ?_ (by assumption) rfl (by first | exact .inl rfl | exact .inr rfl)
     | refine hs_set 4 ?_ (by assumption) rfl (by first | exact .inl rfl | exact .inr rfl)
     | refine hs_set 5 ?_ (by assumption) rfl (by first | exact .inl rfl | exact .inr rfl)
     | refine hs_set 6 ?_ (by assumption) rfl (by first | exact .inl rfl | exact .inr rfl)
     | refine hs_set 7 ?_ (by assumption) rfl (by first | exact .inl rfl | exact .inr rfl)
     | refine hs_set 8 ?_ (by assumption) rfl (by first | exact .inl rfl | exact .inr rfl)
     | refine hs_set 9 ?_ (by assumption) rfl (by first | exact .inl rfl | exact .inr rfl)
     | refine hs_set 10 ?_ (by assumption) rfl (by first | exact .inl rfl | exact .inr rfl)
     | refine hs_set 11 ?_ (by assumption) rfl (by first | exact .inl rfl | exact .inr rfl)
     | refine hs_set 12 ?_ (by assumption) rfl (by first | exact .inl rfl | exact .inr rfl)
     | refine hs_set 13 ?_ (by assumption) rfl (by first | exact .inl rfl | exact .inr rfl)
     | refine hs_set 14 ?_ (by assumption) rfl (by first | exact .inl rfl | exact .inr rfl))
  | (with_reducible show HE _ (.Name _ _) _ _ _
     first
     | refine he_v 0 rfl rfl ?_ | refine he_v 1 rfl rfl ?_ | refine he_v 2 rfl rfl ?_ | refine he_v 3 rfl rfl ?_ | refine he_v 4 rfl rfl ?_
     | refine he_v 5 rfl rfl ?_ | refine he_v 6 rfl rfl ?_ | refine he_v 7 rfl rfl ?_ | refine he_v 8 rfl rfl ?_ | refine he_v 9 rfl rfl ?_
     | refine he_v 10 rfl rfl ?_ | refine he_v 11 rfl rfl ?_ | refine he_v 12 rfl rfl ?_ | refine he_v 13 rfl rfl ?_ | refine he_v 14 rfl rfl ?_
     | refine he_gint (by assumption) rfl ?_ | refine he_gstr (by assumption) rfl ?_)
  | (with_reducible show HE _ (.Constant _ _ _) _ _ _
     first | refine he_int ?_ | refine he_str ?_ | refine he_bl ?_ | refine he_non ?_)
  | (with_reducible show HE _ (.Call (.Name _ _) _ _ _) _ _ _
     first
     | refine he_c1 (by assumption) (by assumption) rfl ?_
     | refine he_c2 (by assumption) (by assumption) rfl ?_
     | refine he_c3 (by assumption) (by assumption) rfl ?_
     | refine he_isRow (by assumption) (by assumption) (by assumption) ?_
     | refine he_isi isInt T_isInt b_int (by assumption) (by assumption) ?_
     | refine he_isi isBl T_isBl b_bool (by assumption) (by assumption) ?_
     | refine he_isi isStr T_isStr b_str (by assumption) (by assumption) ?_
     | refine he_isi isLst T_isLst b_list (by assumption) (by assumption) ?_
     | refine he_isi isTup T_isTup b_tuple (by assumption) (by assumption) ?_
     | refine he_isi isDct T_isDct b_dict (by assumption) (by assumption) ?_
     | refine he_f1 b_len (by assumption) ?_
     | refine he_f1 b_all (by assumption) ?_
     | refine he_f1 b_any (by assumption) ?_
     | refine he_f1 b_sorted (by assumption) ?_
     | refine he_t1 b_list (by assumption) ?_
     | refine he_t1 b_tuple (by assumption) ?_
     | refine he_t1 b_int (by assumption) ?_
     | refine he_t1 b_str (by assumption) ?_)
  | (with_reducible show HE _ (.BinOp _ _ _ _) _ _ _
     refine he_bin ?_)
  | (with_reducible show HE _ (.Compare _ _ _ _) _ _ _
     first | refine he_cmp ?_ | refine he_chain ?_)
  | (with_reducible show HE _ (.UnaryOp _ _ _) _ _ _
     first | refine he_not ?_ | refine he_neg (i := 0) ?_)
  | (with_reducible show HE _ (.IfExp _ _ _ _) _ _ _
     refine he_if ?_)
  | (with_reducible show HE _ (.Subscript _ _ _) _ _ _
     first | refine he_sl ?_ | refine he_ix ?_)
  | (with_reducible show HE _ (.Tuple _ _ _) _ _ _
     refine he_frz (he_tup ?_))
  | (with_reducible show HE _ (.List _ _) _ _ _
     refine he_list ?_)
  | (with_reducible show HE _ (.BoolOp _ _ _) _ _ _
     first | refine he_one ?_ | refine he_and ?_ | refine he_or ?_)
  | (with_reducible show HE _ (.Dict [] [] _) _ _ _
     refine he_dct0 ?_)
  | (with_reducible show HE _ (.Call (.Attribute _ _ _) _ _ _) _ _ _
     first | refine he_join ?_ | refine he_starts3 ?_)
  | (with_reducible show HE _ (.Attribute _ _ _) _ _ _
     refine he_fld ?_)
  | (with_reducible show ∃ _ _ _ _, OT.frz _ = _ ∧ Cls _ _ ∧ _
     refine ⟨_, _, _, _, rfl, by assumption, by assumption, rfl, ?_⟩)
  | (with_reducible show ∃ _ _, [OT.frz _, OT.frz _] = [OT.frz (.str _), OT.frz (.int _)] ∧ _
     refine ⟨_, _, rfl, ?_⟩)
  | (with_reducible show HT _ (.Name _ _) _ _ _
     refine ht_bl ?_
     infer_instance
     with_reducible refine ⟨_, rfl, ?_⟩)
  | (with_reducible show HT _ (.Call _ _ _ _) _ _ _
     refine ht_bl ?_)
  | (with_reducible show HT _ _ _ _ _
     first
     | refine ht_not ?_ | refine ht_cmp ?_ | refine ht_chain ?_ | (refine ht_w ?_; first | refine hw_and ?_ | refine hw_or ?_))
  | (with_reducible show HW _ _ _ _ _
     first | refine hw_and1 ?_ | refine hw_or1 ?_ | refine hw_and ?_ | refine hw_or ?_)
  | (with_reducible show HA _ _ _ _ _
     first | refine ha_nil ?_ | refine ha_cons ?_)
  | (with_reducible show HO2 _ (cB _ .Add) _ _ _ _ _
     first | refine o_add ?_ | refine o_cat (by first | assumption | omega) ?_ | refine o_catO rfl rfl (by first | assumption | omega) ?_)
  | (with_reducible show HO2 _ (cB _ .Sub) _ _ _ _ _
     first | refine o_sub ?_)
  | (with_reducible show HO2 _ (cC _ .Eq) _ _ _ _ _
     first | refine o_eqI ?_ | refine o_eqS ?_ | refine o_eqB ?_)
  | (with_reducible show HO2 _ (cC _ .NotEq) _ _ _ _ _
     first | refine o_neI ?_ | refine o_neS ?_ | refine o_neB ?_)
  | (with_reducible show HO2 _ (cC _ .Lt) _ _ _ _ _
     first | refine o_lt ?_)
  | (with_reducible show HO2 _ (cC _ .LtE) _ _ _ _ _
     first | refine o_le ?_)
  | (with_reducible show HO2 _ (cC _ .Gt) _ _ _ _ _
     first | refine o_gt ?_)
  | (with_reducible show HO2 _ (cC _ .GtE) _ _ _ _ _
     first | refine o_ge ?_)
  | (with_reducible show HO2 _ (cC _ .Is) _ _ _ _ _
     first | refine o_isN ?_)
  | (with_reducible show HO2 _ (cC _ .IsNot) _ _ _ _ _
     first | refine o_notN ?_)
  | (with_reducible show HO2 _ (cC _ .In) _ _ _ _ _
     first | refine o_inS ?_)
  | (with_reducible show HO2 _ (cC _ .NotIn) _ _ _ _ _
     first | refine o_ninS ?_)
  | (with_reducible show HO2 _ (cX _) _ _ _ _ _
     first | refine o_ixL (by first | assumption | rfl) ?_ | refine o_ixT (by first | assumption | rfl) ?_)
  | (with_reducible show HF _ _ _ _ _ _
     first
     | refine hf_lenL ?_ | refine hf_lenT ?_ | refine hf_lenS ⟨by first | assumption | omega, ?_⟩ | refine hf_listL ?_ | refine hf_listT ?_ | refine hf_tupL ?_ | refine hf_tupT ?_ | refine hf_int ?_ | refine hf_intB ?_ | refine hf_strS ?_)
  | (with_reducible show HPo _ _ _ _ _
     first | refine hp_none ?_ | refine hp_some ?_)
  | (with_reducible show HSl _ _ _ _ _ _ _
     first | refine sl_L ?_ | refine sl_S (by first | assumption | omega) ?_)
  | (with_reducible show HGs _ _ _ _ _ _
     first | refine hgs_nil ?_ | refine hgs_cons ?_)
  | (with_reducible show HG _ _ _ _ _ _
     first | refine hg_name _ ⟨Nat.le_of_ble_eq_true rfl, by first | exact pinP _ _ _ | rfl, ?_⟩ | refine hg_tup rfl ?_)
  | (with_reducible show HEb _ _ _ _ _ _
     intro _ _ _ _ _)
  | (with_reducible show HTb _ _ _ _ _ _
     intro _ _ _ _ _)
  | (with_reducible show _ < _ ∧ _ = none ∧ _
     refine ⟨Nat.le_of_ble_eq_true rfl, by first | exact pinP _ _ _ | rfl, ?_⟩)
  | (with_reducible show _ ≤ 100000 ∧ _
     refine ⟨Nat.le_of_ble_eq_true rfl, ?_⟩)
  | (with_reducible show ite (true = true) _ _
     rw [if_pos rfl])
  | (with_reducible show ite (false = true) _ _
     rw [if_neg Bool.false_ne_true])
  | (with_reducible show ite ((!true) = true) _ _
     rw [Bool.not_true, if_neg Bool.false_ne_true])
  | (with_reducible show ite ((!false) = true) _ _
     rw [Bool.not_false, if_pos rfl]))
theorem cost_strs (ls : List Str) (j : Nat) : costL (j + 1) (lsD ls) = 1 := by
  show ((ls.map D.str).map (costL j)).sum + 1 = 1
  rw [List.map_map, sum_const (f := costL j ∘ D.str) (m := 0) (fun x _ => by cases j <;> rfl)]
  omega
theorem cost_rs (rs : List Ru) : costL 2 (rsD rs) = rs.length + 1 := by
  show ((rs.map ruD).map (costL 1)).sum + 1 = _
  rw [List.map_map, sum_const (f := costL 1 ∘ ruD) (m := 1) (fun x _ => rfl)]
  omega
theorem okL_rs {rs : List Ru} (h : rs.length ≤ 100000) : okL 2 (rsD rs) = true := by
  refine okL_rowI rfl (fun c hc => ?_) (by show (rs.map ruD).length ≤ _; rw [List.length_map]; exact h)
  obtain ⟨x, _, rfl⟩ := List.mem_map.mp hc
  exact okL_ru x
theorem cutS_le (w : Str) (i : Nat) : (cutS w none (some (i : Int))).length ≤ i := by
  have h2 : w.cps.toList.length = w.length := Array.length_toList
  show (cutS w none (some (i : Int))).cps.size ≤ i
  rw [← Array.length_toList]
  show (cut w.cps.toList none (some (i : Int))).length ≤ i
  rw [cut_take, List.length_take]
  omega
section
variable {P : Program} {w : World} {K : PySem.W.Frag} {mg : Str → Option Value} {base : Heap} {st cs : Addr} {T : List (Addr × Str)} {C CE CW : Addr}
def sp_kmade (st C : Addr) : PSpec := fun ds n KP _ => ∃ ls rs, ds = [.opq (.ref st), rowsD ls rs] ∧ LsOk ls ∧ RsOk ls rs ∧ 13 ≤ n ∧ KP (n - (ls.length + rs.length + 2)) (rulesO C ls rs)
theorem sc_kmade : FnScope ["stream", "rules"] ["stream", "rules"] (defScope (top 49)) := ⟨rfl, rfl, rfl, by decide +kernel, rfl, by decide +kernel, by decide +kernel⟩
theorem ok_kmade (k : Nat) (d : Def1 K mg "_law_kmade" (top 49)) (O1 : OkF P w K mg base ⟨K, st, cs, T⟩ (k + 1) "_law_mixed" ["stream", "some"] (pureSp (sp_mixed st))) (O2 : OkF P w K mg base ⟨K, st, cs, T⟩ (k + 1) "_law_loose" ["stream", "thing"] (pureSp (sp_loose st 2))) (O3 : OkI P w K mg base ⟨K, st, cs, T⟩ k "Rules" C ["self", "letters", "pairs"] (sp_init C)) :
    OkF P w K mg base ⟨K, st, cs, T⟩ (k + 2) "_law_kmade" ["stream", "rules"] (pureSp (sp_kmade st C)) := by
  refine fn_pure d sc_kmade (fun f ds b n KP XP0 hr hl ⟨ls, rs, e, ⟨q1, q2, q3, q4, q5⟩, ⟨g1, g2, g3⟩, hn, hk⟩ hx => ?_) fun _ _ _ _ _ _ us hl => match us, hl with | [_, _], _ => rfl
  subst e
  have nd := sc_kmade.nd
  refine hss_one (hs_ret (he_make O3 hr ?_))
  refine ha_cons ?_
  repeat infer_instance
  refine ⟨ls.map .str, rfl, by rw [List.length_map]; omega, by rw [List.length_map]; omega, fun ys hp => ?_⟩
  obtain ⟨us, rfl, hu⟩ := strs_of hp
  repeat infer_instance
  rw [List.length_map]
  have hul : us.length = ls.length := hu.length_eq
  refine ⟨lsD us, by rw [show (OT.ol ((us.map D.str).map .frz)).d = lsD us from strsO_d us]; rfl, okL_strs (by omega), by rw [cost_strs]; omega, fun r1 hr1 => ?_⟩
  rw [cost_strs]
  obtain ⟨r3, r4⟩ := loose_strs hr1
  refine ha_cons ?_
  repeat infer_instance
  refine ⟨rsD rs, rfl, okL_rs (by omega), by rw [cost_rs]; omega, fun r2 hr2 => ?_⟩
  rw [cost_rs]
  obtain ⟨r5, r6, r7⟩ := loose_rus hr2
  refine ha_nil ⟨rfl, r1, r2, us, rs, rfl, r3, r4, ?_, ?_, ?_, ?_, r5, r6, r7, g2, g1, fun ys hp hs => ?_⟩
  · rw [hul]; exact q1
  · rw [hul]; exact q2
  · exact fun x hx => q3 x (hu.mem_iff.mp hx)
  · exact hu.nodup_iff.mpr q4
  · have e : ys = ls := sorted_uniq (hp.trans hu) hs q5
    subst e
    refine ⟨g3, rfl, _, _, rfl, ?_⟩
    rw [show n - (ys.length + rs.length + 2) = n - ys.length - 1 - (rs.length + 1) by omega] at hk
    exact hk
/-- one drawn word -/
def sp_kword (st : Addr) : PSpec := fun ds n KP _ => ∃ ls, ∃ m : Nat, ds = [.opq (.ref st), lsD ls, .int (m : Int)] ∧ LsOk ls ∧ m ≤ 60 ∧ m + 6 ≤ n ∧ ∀ n' x, n ≤ n' + (m + 6) → n' ≤ n → LayW ls x → x.length ≤ m → KP n' (.frz (.str x))
abbrev Nkd2 : List Str := ["stream", "letters", "most", "many", "piece", "turn"]
theorem sc_kword : FnScope Nkd2 ["stream", "letters", "most"] (defScope (top 45)) := ⟨rfl, rfl, rfl, by decide +kernel, rfl, by decide +kernel, by decide +kernel⟩
theorem ok_kword (k : Nat) (d : Def1 K mg "_law_kword" (top 45)) (O1 : OkF P w K mg base ⟨K, st, cs, T⟩ k "_law_pick" ["stream", "some"] (pureSp (sp_pick st))) (O2 : OkF P w K mg base ⟨K, st, cs, T⟩ k "_law_below" ["stream", "many"] (pureSp (sp_below st)))
    (O3 : OkF P w K mg base ⟨K, st, cs, T⟩ k "_law_chance" ["stream", "many"] (pureSp (sp_chance st))) (mr : mg "range" = none) :
    OkF P w K mg base ⟨K, st, cs, T⟩ (k + 1) "_law_kword" ["stream", "letters", "most"] (pureSp (sp_kword st)) := by
  refine fn_pure d sc_kword (fun f ds b n KP XP0 hr hl ⟨ls, m, e, hls, hm, hn, hk⟩ hx => ?_) fun _ _ _ _ _ _ us hl => match us, hl with | [_, _, _], _ => rfl
  subst e
  have nd := sc_kword.nd
  have hl1 : 1 ≤ ls.length := hls.1
  have hl3 : ls.length ≤ 3 := hls.2.1
  have hsm := hls.2.2.1
  repeat infer_instance
  refine ⟨(m : Int) + 1, rfl, by omega, by omega, by omega, fun r q1 q2 => ?_⟩
  obtain ⟨j, rfl⟩ := Int.eq_ofNat_of_zero_le q1
  have hj : j ≤ m := by omega
  have gl : ∀ j : Nat, ((List.range (j : Int).toNat).map fun i : Nat => D.int (i : Int)).length = j := fun j => by rw [List.length_map, List.length_range]; rfl
  repeat infer_instance
  refine ⟨3, rfl, by decide, by decide, by omega, fun c => ?_⟩
  refine ⟨c, rfl, iteP ⟨fun hc => ?_, fun hc => ?_⟩⟩
  · repeat infer_instance
    refine he_lc0 [("turn", 5)] (gName 5) ?_ (blkOk_by (N := Nkd2) (sc := defScope (top 45)) (by decide +kernel)) nd (fun s H C cl fp => pg_name nd rfl (.inl rfl) (.inr rfl)) gi_name (fun i _ => pinP _ _ _)
    refine hi_range1 mr ?_
    repeat infer_instance
    refine ⟨3, rfl, by decide, by decide, by omega, fun r q1 q2 => ?_⟩
    obtain ⟨q0, rfl⟩ := Int.eq_ofNat_of_zero_le q1
    repeat infer_instance
    generalize hq : 1 + q0 = q
    rw [show (1 : Int) + (q0 : Int) = (q : Int) by omega]
    have hq3 : q ≤ 3 := by omega
    refine ⟨_, rfl, by omega, by omega, by have := gl q; omega, rfl, fun i2 acc n2 Γ2 => ∃ ys : List Str, acc = (ys.map D.str).map .frz ∧ ys.length = i2 ∧ (∀ y ∈ ys, y ∈ ls) ∧ n2 + (i2 + 3) = n ∧ Γ2 = [some (.frz (.opq (.ref st))), some (.frz (lsD ls)), some (.frz (.int (m : Int))), some (.frz (.int (j : Int))), none, none], ⟨[], rfl, rfl, fun _ h => by simp at h, by omega, rfl⟩, ?_, ?_⟩
    · rintro i2 acc n2 Γ2 d2 hd2 ⟨ys, rfl, hy, hin, hn2, rfl⟩
      have hi2 : i2 < q := by
        have := (List.getElem?_eq_some_iff.mp hd2).1
        rw [gl] at this
        exact this
      repeat infer_instance
      refine ⟨ls.map .str, rfl, by rw [List.length_map]; exact hl1, by rw [List.length_map]; omega, by omega, fun x hx => ?_⟩
      obtain ⟨l, hl, rfl⟩ := List.mem_map.mp hx
      refine ⟨ys ++ [l], by rw [List.map_append, List.map_append]; rfl, by rw [List.length_append, hy]; rfl, fun y hy => ?_, by omega, rfl⟩
      rcases List.mem_append.mp hy with h | h
      · exact hin y h
      · have : y = l := by simpa using h
        rw [this]; exact hl
    rintro acc n2 Γ2 ⟨ys, rfl, hy, hin, hn2, rfl⟩
    have hy : ys.length = q := by rw [hy, gl]
    rw [gl] at hn2
    have hlw : LayW ls (Str.join ("" : Str) ys) := LayW.join fun y h => LayW.one (hin y h) (hsm y (hin y h))
    obtain ⟨a1, a2, a3⟩ := join_ok hsm hin (by omega)
    refine ⟨ys, strsO_d ys, ?_, ?_⟩
    · have : (ys.map (·.length)).sum = ys.length * 1 := sum_const fun y h => by
        obtain ⟨c, rfl, _⟩ := hsm y (hin y h)
        rfl
      rw [this, hy]
      show _ + q * 0 ≤ _
      omega
    rw [show Txt.join (Str.ofString "") ys = Str.join ("" : Str) ys from StrLaws.glued_eq_join _ _]
    generalize Str.join ("" : Str) ys = left at hlw a2
    repeat infer_instance
    have hml : left.length * m ≤ 3 * 60 := Nat.mul_le_mul (by omega) hm
    refine o_mulS (by omega) (by omega) (by omega) (by rw [Int.toNat_natCast]; omega) ?_
    rw [Int.toNat_natCast]
    have hsl : (strRep left m).length ≤ sizeLine := by rw [strRep_len]; show _ ≤ 16777216; omega
    repeat infer_instance
    have hlr : LayW ls (strRep left m) := hlw.rep m
    obtain ⟨i1, m1, e1⟩ := cutS_part (strRep left m) none (some (j : Int))
    refine hk _ _ (by omega) (by omega) (hlr.part e1) ?_
    exact Nat.le_trans (cutS_le (strRep left m) j) hj
  · repeat infer_instance
    refine he_lc0 [("turn", 5)] (gName 5) ?_ (blkOk_by (N := Nkd2) (sc := defScope (top 45)) (by decide +kernel)) nd (fun s H C cl fp => pg_name nd rfl (.inl rfl) (.inr rfl)) gi_name (fun i _ => pinP _ _ _)
    refine hi_range1 mr ?_
    repeat infer_instance
    generalize hq : j = q
    refine ⟨_, rfl, by omega, by omega, by have := gl q; omega, rfl, fun i2 acc n2 Γ2 => ∃ ys : List Str, acc = (ys.map D.str).map .frz ∧ ys.length = i2 ∧ (∀ y ∈ ys, y ∈ ls) ∧ n2 + (i2 + 2) = n ∧ Γ2 = [some (.frz (.opq (.ref st))), some (.frz (lsD ls)), some (.frz (.int (m : Int))), some (.frz (.int (q : Int))), none, none], ⟨[], rfl, rfl, fun _ h => by simp at h, by omega, rfl⟩, ?_, ?_⟩
    · rintro i2 acc n2 Γ2 d2 hd2 ⟨ys, rfl, hy, hin, hn2, rfl⟩
      have hi2 : i2 < q := by
        have := (List.getElem?_eq_some_iff.mp hd2).1
        rw [gl] at this
        exact this
      repeat infer_instance
      refine ⟨ls.map .str, rfl, by rw [List.length_map]; exact hl1, by rw [List.length_map]; omega, by omega, fun x hx => ?_⟩
      obtain ⟨l, hl, rfl⟩ := List.mem_map.mp hx
      refine ⟨ys ++ [l], by rw [List.map_append, List.map_append]; rfl, by rw [List.length_append, hy]; rfl, fun y hy => ?_, by omega, rfl⟩
      rcases List.mem_append.mp hy with h | h
      · exact hin y h
      · have : y = l := by simpa using h
        rw [this]; exact hl
    rintro acc n2 Γ2 ⟨ys, rfl, hy, hin, hn2, rfl⟩
    have hy : ys.length = q := by rw [hy, gl]
    rw [gl] at hn2
    have hlw : LayW ls (Str.join ("" : Str) ys) := LayW.join fun y h => LayW.one (hin y h) (hsm y (hin y h))
    obtain ⟨a1, a2, a3⟩ := join_ok hsm hin (by omega)
    refine ⟨ys, strsO_d ys, ?_, ?_⟩
    · have : (ys.map (·.length)).sum = ys.length * 1 := sum_const fun y h => by
        obtain ⟨c, rfl, _⟩ := hsm y (hin y h)
        rfl
      rw [this, hy]
      show _ + q * 0 ≤ _
      omega
    rw [show Txt.join (Str.ofString "") ys = Str.join ("" : Str) ys from StrLaws.glued_eq_join _ _]
    generalize Str.join ("" : Str) ys = left at hlw a2
    repeat infer_instance
    exact hk _ _ (by omega) (by omega) hlw (by omega)
end
end K03

set_option Elab.async false
set_option linter.all false
set_option maxRecDepth 100000
set_option maxHeartbeats 4000000
namespace K03
open PySem PySem.Spec PyProof.Rows L2 DL Evl
local macro_rules
| `(tactic| infer_instance) => `(tactic| first
  | (with_reducible show ∃ _, OT.frz _ = _ ∧ _
     refine ⟨_, rfl, ?_⟩)
  | (with_reducible show ∃ _, OT.d (OT.frz _) = _ ∧ _
     refine ⟨_, rfl, ?_⟩)
  | (with_reducible show HSs _ _ _ _ _
     first | refine hss_nil ?_ | refine hss_one ?_ | refine hss_cons ?_)
  | (with_reducible show HS _ _ _ _ _
     first
     | refine hs_ret ?_ | refine hs_if ?_ | refine hs_expr ?_ | refine hs_retN ?_ | refine hs_pass ?_ | refine hs_break ?_ | refine hs_continue ?_
     | refine hs_set 0 ?_ (by assumption) rfl (by first | exact .inl rfl | exact .inr rfl)
     | refine hs_set 1 ?_ (by assumption) rfl (by first | exact .inl rfl | exact .inr rfl)
     | refine hs_set 2 ?_ (by assumption) rfl (by first | exact .inl rfl | exact .inr rfl)
     | refine hs_set 3 ?_ (by assumption) rfl (by first | exact .inl rfl | exact .inr rfl)
     | refine hs_set 4 ?_ (by assumption) rfl (by first | exact .inl rfl | exact .inr rfl)
     | refine hs_set 5 ?_ (by assumption) rfl (by first | exact .inl rfl | exact .inr rfl)
     | refine hs_set 6 ?_ (by assumption) rfl (by first | exact .inl rfl | exact .inr rfl)
     | refine hs_set 7 ?_ (by assumption) rfl (by first | exact .inl rfl | exact .inr rfl)
     | refine hs_set 8 ?_ (by assumption) rfl (by first | exact .inl rfl | exact .inr rfl)
     | refine hs_set 9 ?_ (by assumption) rfl (by first | exact .inl rfl | exact .inr rfl)
     | refine hs_set 10 ?_ (by assumption) rfl (by first | exact .inl rfl | exact .inr rfl)
     | refine hs_set 11 ?_ (by assumption) rfl (by first | exact .inl rfl | exact .inr rfl)
     | refine hs_set 12 ?_ (by assumption) rfl (by first | exact .inl rfl | exact .inr rfl)
     | refine hs_set 13 ?_ (by assumption) rfl (by first | exact .inl rfl | exact .inr rfl)
     | refine hs_set 14 ?_ (by assumption) rfl (by first | exact .inl rfl | exact .inr rfl))
  | (with_reducible show HE _ (.Name _ _) _ _ _
     first
     | refine he_v 0 rfl rfl ?_ | refine he_v 1 rfl rfl ?_ | refine he_v 2 rfl rfl ?_ | refine he_v 3 rfl rfl ?_ | refine he_v 4 rfl rfl ?_
     | refine he_v 5 rfl rfl ?_ | refine he_v 6 rfl rfl ?_ | refine he_v 7 rfl rfl ?_ | refine he_v 8 rfl rfl ?_ | refine he_v 9 rfl rfl ?_
     | refine he_v 10 rfl rfl ?_ | refine he_v 11 rfl rfl ?_ | refine he_v 12 rfl rfl ?_ | refine he_v 13 rfl rfl ?_ | refine he_v 14 rfl rfl ?_
     | refine he_gint (by assumption) rfl ?_ | refine he_gstr (by assumption) rfl ?_)
  | (with_reducible show HE _ (.Constant _ _ _) _ _ _
     first | refine he_int ?_ | refine he_str ?_ | refine he_bl ?_ | refine he_non ?_)
  | (with_reducible show HE _ (.Call (.Name _ _) _ _ _) _ _ _
     first
     | refine he_c1 (by assumption) (by assumption) rfl ?_
     | refine he_c2 (by assumption) (by assumption) rfl ?_
     | refine he_c3 (by assumption) (by assumption) rfl ?_
     | refine he_isRow (by assumption) (by assumption) (by assumption) ?_
     | refine he_isi isInt T_isInt b_int (by assumption) (by assumption) ?_
     | refine he_isi isBl T_isBl b_bool (by assumption) (by assumption) ?_
     | refine he_isi isStr T_isStr b_str (by assumption) (by assumption) ?_
     | refine he_isi isLst T_isLst b_list (by assumption) (by assumption) ?_
     | refine he_isi isTup T_isTup b_tuple (by assumption) (by assumption) ?_
     | refine he_isi isDct T_isDct b_dict (by assumption) (by assumption) ?_
     | refine he_f1 b_len (by assumption) ?_
     | refine he_f1 b_all (by assumption) ?_
     | refine he_f1 b_any (by assumption) ?_
     | refine he_f1 b_sorted (by assumption) ?_
     | refine he_t1 b_list (by assumption) ?_
     | refine he_t1 b_tuple (by assumption) ?_
     | refine he_t1 b_int (by assumption) ?_
     | refine he_t1 b_str (by assumption) ?_)
  | (with_reducible show HE _ (.BinOp _ _ _ _) _ _ _
     refine he_bin ?_)
  | (with_reducible show HE _ (.Compare _ _ _ _) _ _ _
     first | refine he_cmp ?_ | refine he_chain ?_)
  | (with_reducible show HE _ (.UnaryOp _ _ _) _ _ _
     first | refine he_not ?_ | refine he_neg (i := 0) ?_)
  | (with_reducible show HE _ (.IfExp _ _ _ _) _ _ _
     refine he_if ?_)
  | (with_reducible show HE _ (.Subscript _ _ _) _ _ _
     first | refine he_sl ?_ | refine he_ix ?_)
  | (with_reducible show HE _ (.Tuple _ _ _) _ _ _
     refine he_frz (he_tup ?_))
  | (with_reducible show HE _ (.List _ _) _ _ _
     refine he_list ?_)
  | (with_reducible show HE _ (.BoolOp _ _ _) _ _ _
     first | refine he_one ?_ | refine he_and ?_ | refine he_or ?_)
  | (with_reducible show HE _ (.Dict [] [] _) _ _ _
     refine he_dct0 ?_)
  | (with_reducible show HE _ (.Call (.Attribute _ _ _) _ _ _) _ _ _
     first | refine he_join ?_ | refine he_starts3 ?_)
  | (with_reducible show HE _ (.Attribute _ _ _) _ _ _
     refine he_fld ?_)
  | (with_reducible show ∃ _ _ _ _, OT.frz _ = _ ∧ Cls _ _ ∧ _
     refine ⟨_, _, _, _, rfl, by assumption, by assumption, rfl, ?_⟩)
  | (with_reducible show ∃ _ _, [OT.frz _, OT.frz _] = [OT.frz (.str _), OT.frz (.int _)] ∧ _
     refine ⟨_, _, rfl, ?_⟩)
  | (with_reducible show HT _ (.Name _ _) _ _ _
     refine ht_bl ?_
     infer_instance
     with_reducible refine ⟨_, rfl, ?_⟩)
  | (with_reducible show HT _ (.Call _ _ _ _) _ _ _
     refine ht_bl ?_)
  | (with_reducible show HT _ _ _ _ _
     first
     | refine ht_not ?_ | refine ht_cmp ?_ | refine ht_chain ?_ | (refine ht_w ?_; first | refine hw_and ?_ | refine hw_or ?_))
  | (with_reducible show HW _ _ _ _ _
     first | refine hw_and1 ?_ | refine hw_or1 ?_ | refine hw_and ?_ | refine hw_or ?_)
  | (with_reducible show HA _ _ _ _ _
     first | refine ha_nil ?_ | refine ha_cons ?_)
  | (with_reducible show HO2 _ (cB _ .Add) _ _ _ _ _
     first | refine o_add ?_ | refine o_cat (by first | assumption | omega) ?_ | refine o_catO rfl rfl (by first | assumption | omega) ?_)
  | (with_reducible show HO2 _ (cB _ .Sub) _ _ _ _ _
     first | refine o_sub ?_)
  | (with_reducible show HO2 _ (cC _ .Eq) _ _ _ _ _
     first | refine o_eqI ?_ | refine o_eqS ?_ | refine o_eqB ?_)
  | (with_reducible show HO2 _ (cC _ .NotEq) _ _ _ _ _
     first | refine o_neI ?_ | refine o_neS ?_ | refine o_neB ?_)
  | (with_reducible show HO2 _ (cC _ .Lt) _ _ _ _ _
     first | refine o_lt ?_)
  | (with_reducible show HO2 _ (cC _ .LtE) _ _ _ _ _
     first | refine o_le ?_)
  | (with_reducible show HO2 _ (cC _ .Gt) _ _ _ _ _
     first | refine o_gt ?_)
  | (with_reducible show HO2 _ (cC _ .GtE) _ _ _ _ _
     first | refine o_ge ?_)
  | (with_reducible show HO2 _ (cC _ .Is) _ _ _ _ _
     first | refine o_isN ?_)
  | (with_reducible show HO2 _ (cC _ .IsNot) _ _ _ _ _
     first | refine o_notN ?_)
  | (with_reducible show HO2 _ (cC _ .In) _ _ _ _ _
     first | refine o_inS ?_)
  | (with_reducible show HO2 _ (cC _ .NotIn) _ _ _ _ _
     first | refine o_ninS ?_)
  | (with_reducible show HO2 _ (cX _) _ _ _ _ _
     first | refine o_ixL (by first | assumption | rfl) ?_ | refine o_ixT (by first | assumption | rfl) ?_)
  | (with_reducible show HF _ _ _ _ _ _
     first
     | refine hf_lenL ?_ | refine hf_lenT ?_ | refine hf_lenS ⟨by first | assumption | omega, ?_⟩ | refine hf_listL ?_ | refine hf_listT ?_ | refine hf_tupL ?_ | refine hf_tupT ?_ | refine hf_int ?_ | refine hf_intB ?_ | refine hf_strS ?_)
  | (with_reducible show HPo _ _ _ _ _
     first | refine hp_none ?_ | refine hp_some ?_)
  | (with_reducible show HSl _ _ _ _ _ _ _
     first | refine sl_L ?_ | refine sl_S (by first | assumption | omega) ?_)
  | (with_reducible show HGs _ _ _ _ _ _
     first | refine hgs_nil ?_ | refine hgs_cons ?_)
  | (with_reducible show HG _ _ _ _ _ _
     first | refine hg_name _ ⟨Nat.le_of_ble_eq_true rfl, by first | exact pinP _ _ _ | rfl, ?_⟩ | refine hg_tup rfl ?_)
  | (with_reducible show HEb _ _ _ _ _ _
     intro _ _ _ _ _)
  | (with_reducible show HTb _ _ _ _ _ _
     intro _ _ _ _ _)
  | (with_reducible show _ < _ ∧ _ = none ∧ _
     refine ⟨Nat.le_of_ble_eq_true rfl, by first | exact pinP _ _ _ | rfl, ?_⟩)
  | (with_reducible show _ ≤ 100000 ∧ _
     refine ⟨Nat.le_of_ble_eq_true rfl, ?_⟩)
  | (with_reducible show ite (true = true) _ _
     rw [if_pos rfl])
  | (with_reducible show ite (false = true) _ _
     rw [if_neg Bool.false_ne_true])
  | (with_reducible show ite ((!true) = true) _ _
     rw [Bool.not_true, if_neg Bool.false_ne_true])
  | (with_reducible show ite ((!false) = true) _ _
     rw [Bool.not_false, if_pos rfl]))
section
variable {P : Program} {w : World} {K : PySem.W.Frag} {mg : Str → Option Value} {base : Heap} {st cs : Addr} {T : List (Addr × Str)} {C CE CW : Addr}
/-- a word grown -/
def sp_kgrown (st : Addr) : PSpec := fun ds n KP _ => ∃ ls rs x, ∃ m : Nat, ds = [.opq (.ref st), rowsD ls rs, .str x, .int (m : Int)] ∧ RsOk ls rs ∧ LayW ls x ∧ m ≤ 9 ∧ x.length ≤ 60 ∧ 2 * m ≤ n ∧ ∀ n' y, n ≤ n' + 2 * m → n' ≤ n → LayW ls y → y.length ≤ x.length + 6 * m → KP n' (.frz (.str y))
abbrev Nkg : List Str := ["stream", "rules", "word", "many", "turn", "left", "right", "at", "places"]
theorem sc_kgrown : FnScope Nkg ["stream", "rules", "word", "many"] (defScope (top 50)) := ⟨rfl, rfl, rfl, by decide +kernel, rfl, by decide +kernel, by decide +kernel⟩
theorem ok_kgrown (k : Nat) (d : Def1 K mg "_law_kgrown" (top 50)) (O1 : OkF P w K mg base ⟨K, st, cs, T⟩ k "_law_pick" ["stream", "some"] (pureSp (sp_pick st))) (mr : mg "range" = none) (ml : mg "len" = none) :
    OkF P w K mg base ⟨K, st, cs, T⟩ (k + 1) "_law_kgrown" ["stream", "rules", "word", "many"] (pureSp (sp_kgrown st)) := by
  refine fn_pure d sc_kgrown (fun f ds b n KP XP0 hr hl ⟨ls, rs, x, m, e, hrs, hx1, hm, hx2, hn, hk⟩ hx => ?_) fun _ _ _ _ _ _ us hl => match us, hl with | [_, _, _, _], _ => rfl
  subst e
  have nd := sc_kgrown.nd
  have hr8 : rs.length ≤ 8 := hrs.1
  refine hss_cons (hs_for (g := gName 4) (hi_range1 mr (ha_cons ?_)) (pg_name nd rfl (.inl rfl) (.inr rfl)))
  repeat infer_instance
  have gl : ((List.range (m : Int).toNat).map fun i : Nat => D.int (i : Int)).length = m := by rw [List.length_map, List.length_range]; rfl
  refine ⟨_, rfl, by omega, by omega, fun i n' Γ' => n' ≤ n ∧ n ≤ n' + 2 * i ∧ ∃ y a b c d e, LayW ls y ∧ y.length ≤ x.length + 6 * i ∧ Γ' = [some (.frz (.opq (.ref st))), some (.frz (rowsD ls rs)), some (.frz (.str y)), some (.frz (.int (m : Int))), a, b, c, d, e], ⟨by omega, by omega, x, none, none, none, none, none, hx1, by omega, rfl⟩, ?_, ?_⟩
  · rintro i n' Γ' dd hdd ⟨q1, q2, y, a0, b0, c0, d0, e0, hy1, hy2, rfl⟩
    have hi : i < m := by
      have := (List.getElem?_eq_some_iff.mp hdd).1
      rw [gl] at this
      exact this
    refine hg_name _ ⟨by show (4 : Nat) < 9; decide, pinP _ _ _, ?_⟩
    refine hss_fg [some (.frz (.opq (.ref st))), some (.frz (rowsD ls rs)), some (.frz (.str y)), some (.frz (.int (m : Int))), none, none, none, none, none] (by repeat (first | exact True.intro | refine ⟨.inr rfl, ?_⟩ | refine ⟨.inl rfl, ?_⟩)) ?_
    repeat infer_instance
    refine ho_fz ?_
    refine o_eqD (d := rsD rs) (e := .lst []) (p := .list (rs.map ruP)) (q := .list []) (by show (toPs _).map PyData.list = _; rw [toPs_rus]; rfl) rfl (sh_rus hrs.2.2) rfl hr.units ⟨_, rfl, ?_⟩
    rw [DL.eqv_nil, List.isEmpty_map]
    refine iteP ⟨fun hem => ?_, fun hem => ?_⟩
    · repeat infer_instance
      exact hk _ _ (by omega) q1 hy1 (by omega)
    have hne : rs ≠ [] := fun h => by rw [h] at hem; exact absurd hem (by decide)
    have hr1 : 1 ≤ rs.length := List.length_pos_iff.mpr hne
    refine hss_nil ?_
    refine hss_cons (hs_unp [5, 6] ?_ (pgs_cons (pg_name nd rfl (.inl rfl) (.inr rfl)) (pgs_cons (pg_name nd rfl (.inr rfl) (.inl rfl)) pgs_nil)))
    repeat infer_instance
    refine ⟨rs.map ruD, rfl, by rw [List.length_map]; exact hr1, by rw [List.length_map]; omega, by omega, fun pd hpd => ?_⟩
    obtain ⟨p, hp, rfl⟩ := List.mem_map.mp hpd
    have hpo := hrs.2.2 p hp
    obtain ⟨hp1, hp2⟩ := hpo.lay
    refine ⟨_, .inr ⟨[.str p.1, .str p.2], rfl, rfl⟩, rfl, fun j hj => ⟨?_, pinP _ _ _⟩, ?_⟩
    · have : j = 5 ∨ j = 6 := by simpa using hj
      show j < 9
      omega
    show HSs b.S _ _ [some (.frz (.opq (.ref st))), some (.frz (rowsD ls rs)), some (.frz (.str y)), some (.frz (.int (m : Int))), none, some (.frz (.str p.1)), some (.frz (.str p.2)), none, none] _
    have gy : ((List.range (((y.length + 1 : Nat) : Int)).toNat).map fun i : Nat => D.int (i : Int)).length = y.length + 1 := by rw [List.length_map, List.length_range]; rfl
    have hy60 : y.length ≤ 200 := by omega
    refine hss_cons (hs_lc1 8 (pr_filter [("at", 7)] (gName 7) (fun d => match d with | .int i => Txt.startswith3 y p.2 i | _ => false) (fun d => .frz d) ?_) rfl (blkOk_by (N := Nkg) (sc := defScope (top 50)) (by decide +kernel)) nd (fun s H C cl fp => pg_name nd rfl (.inl rfl) (.inr rfl)) gi_name (fun i _ => pinP _ _ _))
    refine hi_range1 mr ?_
    have hyS : y.length ≤ sizeLine := by show y.length ≤ 16777216; omega
    repeat infer_instance
    refine ⟨((y.length + 1 : Nat) : Int), rfl, by omega, by omega, by have := gy; omega, rfl, fun dd2 hd2 => ?_, ?_⟩
    · obtain ⟨i2, hi2, rfl⟩ := List.mem_map.mp hd2
      repeat infer_instance
      refine ⟨rfl, fun h => ?_, fun h => ⟨rfl, rfl⟩⟩
      repeat infer_instance
      exact ⟨rfl, rfl, rfl⟩
    refine ⟨by show (8 : Nat) < 9; decide, pinP _ _ _, ?_⟩
    generalize hpl : List.filter _ _ = pl
    have hin : ∀ c ∈ pl, ∃ i2 : Nat, c = .int (i2 : Int) ∧ i2 ≤ y.length := fun c hc => by
      subst hpl
      obtain ⟨i2, hi2, rfl⟩ := List.mem_map.mp (List.mem_filter.mp hc).1
      exact ⟨i2, rfl, by have := List.mem_range.mp hi2; omega⟩
    have hpll : pl.length ≤ y.length + 1 := by
      subst hpl
      exact Nat.le_trans (List.length_filter_le _ _) (by rw [gy]; exact Nat.le_refl _)
    refine hss_one (hs_if (ht_bor fun E' xo' hP => ht_cmp ?_))
    repeat infer_instance
    refine ho_fz ?_
    rw [show (OT.ol (List.map (fun d => OT.frz d) pl)).d = .lst pl from od_ol' pl]
    refine o_neSome (ds := pl) (fun c hc => ?_) hr.units ⟨_, rfl, ?_⟩
    · obtain ⟨i2, rfl, _⟩ := hin c hc
      exact ⟨_, rfl, rfl, by show (0 : Nat) ≤ 60; decide⟩
    refine iteP ⟨fun hem => ?_, fun hem => ?_⟩
    · have hp1l : 1 ≤ pl.length := by
        cases pl with
        | nil => cases hem
        | cons c l => rw [List.length_cons]; omega
      refine hss_cons (hs_set 7 (he_c2 O1 hr rfl (he_v 0 rfl rfl (he_move 8 rfl (.inl rfl) rfl ?_))) nd rfl (.inl rfl))
      refine ⟨pl, by rw [show (OT.ol (List.map (fun d => OT.frz d) pl)).d = .lst pl from od_ol' pl]; rfl, hp1l, by omega, by omega, fun c hc => ⟨by show (7 : Nat) < 9; decide, pinP _ _ _, ?_⟩⟩
      obtain ⟨i2, rfl, hi2⟩ := hin c hc
      repeat infer_instance
      have hpl1 : p.1.length ≤ 6 := hpo.2.2.2.2.1
      have hpl2 : p.2.length ≤ 1 := hpo.2.2.2.2.2.1
      have hpS : p.2.length ≤ sizeLine := by show _ ≤ 16777216; omega
      refine o_cat (by rw [cutS_len_take _ _ hi2]; show _ ≤ 16777216; omega) ?_
      repeat infer_instance
      rw [show ((i2 : Int) + (p.2.length : Int)) = ((i2 + p.2.length : Nat) : Int) by omega]
      have hlen : (cutS y none (some (i2 : Int)) ++ p.1 ++ cutS y (some ((i2 + p.2.length : Nat) : Int)) none).length ≤ y.length + 6 := by
        rw [str_len_app, str_len_app, cutS_len_take _ _ hi2, cutS_len_drop]
        omega
      refine o_cat ?_ ?_
      · rw [← str_len_app]
        show _ ≤ 16777216
        omega
      obtain ⟨i3, m3, e3⟩ := cutS_part y none (some (i2 : Int))
      obtain ⟨i4, m4, e4⟩ := cutS_part y (some ((i2 + p.2.length : Nat) : Int)) none
      refine ⟨by show (2 : Nat) < 9; decide, pinP _ _ _, by omega, by omega, _, _, _, _, _, _, ((hy1.part e3).app hp1).app (hy1.part e4), by omega, rfl⟩
    · repeat infer_instance
      exact ⟨by omega, by omega, y, _, _, _, _, _, hy1, by omega, rfl⟩
  rintro n' Γ' ⟨q1, q2, y, a0, b0, c0, d0, e0, hy1, hy2, rfl⟩
  rw [gl] at q2 hy2
  repeat infer_instance
  exact hk _ _ q2 q1 hy1 hy2
end
end K03

set_option Elab.async false
set_option linter.all false
set_option maxRecDepth 100000
set_option maxHeartbeats 4000000
namespace K03
open PySem PySem.Spec PyProof.Rows L2 DL Evl
local macro_rules
| `(tactic| infer_instance) => `(tactic| first
  | (with_reducible show ∃ _, OT.frz _ = _ ∧ _
     refine ⟨_, rfl, ?_⟩)
  | (with_reducible show ∃ _, OT.d (OT.frz _) = _ ∧ _
     refine ⟨_, rfl, ?_⟩)
  | (with_reducible show HSs _ _ _ _ _
     first | refine hss_nil ?_ | refine hss_one ?_ | refine hss_cons ?_)
  | (with_reducible show HS _ _ _ _ _
     first
     | refine hs_ret ?_ | refine hs_if ?_ | refine hs_expr ?_ | refine hs_retN ?_ | refine hs_pass ?_ | refine hs_break ?_ | refine hs_continue ?_
     | refine hs_set 0 ?_ (by assumption) rfl (by first | exact .inl rfl | exact .inr rfl)
     | refine hs_set 1 ?_ (by assumption) rfl (by first | exact .inl rfl | exact .inr rfl)
     | refine hs_set 2 ?_ (by assumption) rfl (by first | exact .inl rfl | exact .inr rfl)
     | refine hs_set 3 ?_ (by assumption) rfl (by first | exact .inl rfl | exact .inr rfl)
     | refine hs_set 4 ?_ (by assumption) rfl (by first | exact .inl rfl | exact .inr rfl)
     | refine hs_set 5 ?_ (by assumption) rfl (by first | exact .inl rfl | exact .inr rfl)
     | refine hs_set 6 ?_ (by assumption) rfl (by first | exact .inl rfl | exact .inr rfl)
     | refine hs_set 7 ?_ (by assumption) rfl (by first | exact .inl rfl | exact .inr rfl)
     | refine hs_set 8 ?_ (by assumption) rfl (by first | exact .inl rfl | exact .inr rfl)
     | refine hs_set 9 ?_ (by assumption) rfl (by first | exact .inl rfl | exact .inr rfl)
     | refine hs_set 10 ?_ (by assumption) rfl (by first | exact .inl rfl | exact .inr rfl)
     | refine hs_set 11 ?_ (by assumption) rfl (by first | exact .inl rfl | exact .inr rfl)
     | refine hs_set 12 ?_ (by assumption) rfl (by first | exact .inl rfl | exact .inr rfl)
     | refine hs_set 13 ?_ (by assumption) rfl (by first | exact .inl rfl | exact .inr rfl)
     | refine hs_set 14 ?_ (by assumption) rfl (by first | exact .inl rfl | exact .inr rfl))
  | (with_reducible show HE _ (.Name _ _) _ _ _
     first
     | refine he_v 0 rfl rfl ?_ | refine he_v 1 rfl rfl ?_ | refine he_v 2 rfl rfl ?_ | refine he_v 3 rfl rfl ?_ | refine he_v 4 rfl rfl ?_
     | refine he_v 5 rfl rfl ?_ | refine he_v 6 rfl rfl ?_ | refine he_v 7 rfl rfl ?_ | refine he_v 8 rfl rfl ?_ | refine he_v 9 rfl rfl ?_
     | refine he_v 10 rfl rfl ?_ | refine he_v 11 rfl rfl ?_ | refine he_v 12 rfl rfl ?_ | refine he_v 13 rfl rfl ?_ | refine he_v 14 rfl rfl ?_
     | refine he_gint (by assumption) rfl ?_ | refine he_gstr (by assumption) rfl ?_)
  | (with_reducible show HE _ (.Constant _ _ _) _ _ _
     first | refine he_int ?_ | refine he_str ?_ | refine he_bl ?_ | refine he_non ?_)
  | (with_reducible show HE _ (.Call (.Name _ _) _ _ _) _ _ _
     first
     | refine he_c1 (by assumption) (by assumption) rfl ?_
     | refine he_c2 (by assumption) (by assumption) rfl ?_
     | refine he_c3 (by assumption) (by assumption) rfl ?_
     | refine he_isRow (by assumption) (by assumption) (by assumption) ?_
     | refine he_isi isInt T_isInt b_int (by assumption) (by assumption) ?_
     | refine he_isi isBl T_isBl b_bool (by assumption) (by assumption) ?_
     | refine he_isi isStr T_isStr b_str (by assumption) (by assumption) ?_
     | refine he_isi isLst T_isLst b_list (by assumption) (by assumption) ?_
     | refine he_isi isTup T_isTup b_tuple (by assumption) (by assumption) ?_
     | refine he_isi isDct T_isDct b_dict (by assumption) (by assumption) ?_
     | refine he_f1 b_len (by assumption) ?_
     | refine he_f1 b_all (by assumption) ?_
     | refine he_f1 b_any (by assumption) ?_
     | refine he_f1 b_sorted (by assumption) ?_
     | refine he_t1 b_list (by assumption) ?_
     | refine he_t1 b_tuple (by assumption) ?_
     | refine he_t1 b_int (by assumption) ?_
     | refine he_t1 b_str (by assumption) ?_)
  | (with_reducible show HE _ (.BinOp _ _ _ _) _ _ _
     refine he_bin ?_)
  | (with_reducible show HE _ (.Compare _ _ _ _) _ _ _
     first | refine he_cmp ?_ | refine he_chain ?_)
  | (with_reducible show HE _ (.UnaryOp _ _ _) _ _ _
     first | refine he_not ?_ | refine he_neg (i := 0) ?_)
  | (with_reducible show HE _ (.IfExp _ _ _ _) _ _ _
     refine he_if ?_)
  | (with_reducible show HE _ (.Subscript _ _ _) _ _ _
     first | refine he_sl ?_ | refine he_ix ?_)
  | (with_reducible show HE _ (.Tuple _ _ _) _ _ _
     refine he_frz (he_tup ?_))
  | (with_reducible show HE _ (.List _ _) _ _ _
     refine he_list ?_)
  | (with_reducible show HE _ (.BoolOp _ _ _) _ _ _
     first | refine he_one ?_ | refine he_and ?_ | refine he_or ?_)
  | (with_reducible show HE _ (.Dict [] [] _) _ _ _
     refine he_dct0 ?_)
  | (with_reducible show HE _ (.Call (.Attribute _ _ _) _ _ _) _ _ _
     first | refine he_join ?_ | refine he_starts3 ?_)
  | (with_reducible show HE _ (.Attribute _ _ _) _ _ _
     refine he_fld ?_)
  | (with_reducible show ∃ _ _ _ _, OT.frz _ = _ ∧ Cls _ _ ∧ _
     refine ⟨_, _, _, _, rfl, by assumption, by assumption, rfl, ?_⟩)
  | (with_reducible show ∃ _ _, [OT.frz _, OT.frz _] = [OT.frz (.str _), OT.frz (.int _)] ∧ _
     refine ⟨_, _, rfl, ?_⟩)
  | (with_reducible show HT _ (.Name _ _) _ _ _
     refine ht_bl ?_
     infer_instance
     with_reducible refine ⟨_, rfl, ?_⟩)
  | (with_reducible show HT _ (.Call _ _ _ _) _ _ _
     refine ht_bl ?_)
  | (with_reducible show HT _ _ _ _ _
     first
     | refine ht_not ?_ | refine ht_cmp ?_ | refine ht_chain ?_ | (refine ht_w ?_; first | refine hw_and ?_ | refine hw_or ?_))
  | (with_reducible show HW _ _ _ _ _
     first | refine hw_and1 ?_ | refine hw_or1 ?_ | refine hw_and ?_ | refine hw_or ?_)
  | (with_reducible show HA _ _ _ _ _
     first | refine ha_nil ?_ | refine ha_cons ?_)
  | (with_reducible show HO2 _ (cB _ .Add) _ _ _ _ _
     first | refine o_add ?_ | refine o_cat (by first | assumption | omega) ?_ | refine o_catO rfl rfl (by first | assumption | omega) ?_)
  | (with_reducible show HO2 _ (cB _ .Sub) _ _ _ _ _
     first | refine o_sub ?_)
  | (with_reducible show HO2 _ (cC _ .Eq) _ _ _ _ _
     first | refine o_eqI ?_ | refine o_eqS ?_ | refine o_eqB ?_)
  | (with_reducible show HO2 _ (cC _ .NotEq) _ _ _ _ _
     first | refine o_neI ?_ | refine o_neS ?_ | refine o_neB ?_)
  | (with_reducible show HO2 _ (cC _ .Lt) _ _ _ _ _
     first | refine o_lt ?_)
  | (with_reducible show HO2 _ (cC _ .LtE) _ _ _ _ _
     first | refine o_le ?_)
  | (with_reducible show HO2 _ (cC _ .Gt) _ _ _ _ _
     first | refine o_gt ?_)
  | (with_reducible show HO2 _ (cC _ .GtE) _ _ _ _ _
     first | refine o_ge ?_)
  | (with_reducible show HO2 _ (cC _ .Is) _ _ _ _ _
     first | refine o_isN ?_)
  | (with_reducible show HO2 _ (cC _ .IsNot) _ _ _ _ _
     first | refine o_notN ?_)
  | (with_reducible show HO2 _ (cC _ .In) _ _ _ _ _
     first | refine o_inS ?_)
  | (with_reducible show HO2 _ (cC _ .NotIn) _ _ _ _ _
     first | refine o_ninS ?_)
  | (with_reducible show HO2 _ (cX _) _ _ _ _ _
     first | refine o_ixL (by first | assumption | rfl) ?_ | refine o_ixT (by first | assumption | rfl) ?_)
  | (with_reducible show HF _ _ _ _ _ _
     first
     | refine hf_lenL ?_ | refine hf_lenT ?_ | refine hf_lenS ⟨by first | assumption | omega, ?_⟩ | refine hf_listL ?_ | refine hf_listT ?_ | refine hf_tupL ?_ | refine hf_tupT ?_ | refine hf_int ?_ | refine hf_intB ?_ | refine hf_strS ?_)
  | (with_reducible show HPo _ _ _ _ _
     first | refine hp_none ?_ | refine hp_some ?_)
  | (with_reducible show HSl _ _ _ _ _ _ _
     first | refine sl_L ?_ | refine sl_S (by first | assumption | omega) ?_)
  | (with_reducible show HGs _ _ _ _ _ _
     first | refine hgs_nil ?_ | refine hgs_cons ?_)
  | (with_reducible show HG _ _ _ _ _ _
     first | refine hg_name _ ⟨Nat.le_of_ble_eq_true rfl, by first | exact pinP _ _ _ | rfl, ?_⟩ | refine hg_tup rfl ?_)
  | (with_reducible show HEb _ _ _ _ _ _
     intro _ _ _ _ _)
  | (with_reducible show HTb _ _ _ _ _ _
     intro _ _ _ _ _)
  | (with_reducible show _ < _ ∧ _ = none ∧ _
     refine ⟨Nat.le_of_ble_eq_true rfl, by first | exact pinP _ _ _ | rfl, ?_⟩)
  | (with_reducible show _ ≤ 100000 ∧ _
     refine ⟨Nat.le_of_ble_eq_true rfl, ?_⟩)
  | (with_reducible show ite (true = true) _ _
     rw [if_pos rfl])
  | (with_reducible show ite (false = true) _ _
     rw [if_neg Bool.false_ne_true])
  | (with_reducible show ite ((!true) = true) _ _
     rw [Bool.not_true, if_neg Bool.false_ne_true])
  | (with_reducible show ite ((!false) = true) _ _
     rw [Bool.not_false, if_pos rfl]))
section
variable {P : Program} {w : World} {K : PySem.W.Frag} {mg : Str → Option Value} {base : Heap} {st cs : Addr} {T : List (Addr × Str)} {C CE CW : Addr}
/-- a word drawn, often one that rules shorten -/
def sp_kstill (st : Addr) : PSpec := fun ds n KP _ => ∃ ls rs, ∃ m : Nat, ds = [.opq (.ref st), rowsD ls rs, .int (m : Int)] ∧ LsOk ls ∧ RsOk ls rs ∧ m ≤ 60 ∧ 25 ≤ n ∧ ∀ n' y, n ≤ n' + 25 → n' ≤ n → LayW ls y → y.length ≤ m → KP n' (.frz (.str y))
abbrev Nkl : List Str := ["stream", "rules", "most", "word"]
theorem sc_kstill : FnScope Nkl ["stream", "rules", "most"] (defScope (top 51)) := ⟨rfl, rfl, rfl, by decide +kernel, rfl, by decide +kernel, by decide +kernel⟩
theorem ok_kstill (k : Nat) (d : Def1 K mg "_law_kstill" (top 51)) (O1 : OkF P w K mg base ⟨K, st, cs, T⟩ k "_law_kword" ["stream", "letters", "most"] (pureSp (sp_kword st))) (O2 : OkF P w K mg base ⟨K, st, cs, T⟩ k "_law_chance" ["stream", "many"] (pureSp (sp_chance st)))
    (O3 : OkF P w K mg base ⟨K, st, cs, T⟩ k "_law_kgrown" ["stream", "rules", "word", "many"] (pureSp (sp_kgrown st))) :
    OkF P w K mg base ⟨K, st, cs, T⟩ (k + 1) "_law_kstill" ["stream", "rules", "most"] (pureSp (sp_kstill st)) := by
  refine fn_pure d sc_kstill (fun f ds b n KP XP0 hr hl ⟨ls, rs, m, e, hls, hrs, hm, hn, hk⟩ hx => ?_) fun _ _ _ _ _ _ us hl => match us, hl with | [_, _, _], _ => rfl
  subst e
  have nd := sc_kstill.nd
  repeat infer_instance
  refine ⟨ls, 4, rfl, hls, by decide, by omega, fun n1 y1 a1 a2 a3 a4 => ?_⟩
  refine ⟨by show (3 : Nat) < 4; decide, pinP _ _ _, ?_⟩
  refine hss_cons (hs_post (fun n' Γ' => n' ≤ n ∧ n ≤ n' + 25 ∧ ∃ y, LayW ls y ∧ y.length ≤ 60 ∧ Γ' = [some (.frz (.opq (.ref st))), some (.frz (rowsD ls rs)), some (.frz (.int (m : Int))), some (.frz (.str y))]) ?_ ?_)
  · repeat infer_instance
    refine ⟨2, rfl, by decide, by decide, by omega, fun c => ⟨c, rfl, iteP ⟨fun hc => ?_, fun hc => ?_⟩⟩⟩
    · refine hss_one (hs_set 3 ?_ nd rfl (.inl rfl))
      refine he_callP O3 hr ?_
      repeat infer_instance
      refine ⟨ls, 2, rfl, hls, by decide, by omega, fun n2 y2 b1 b2 b3 b4 => ?_⟩
      repeat infer_instance
      refine ⟨rfl, ls, rs, y2, 3, rfl, hrs, b3, by decide, by omega, by omega, fun n3 y3 c1 c2 c3 c4 => ?_⟩
      exact ⟨by show (3 : Nat) < 4; decide, pinP _ _ _, by omega, by omega, y3, c3, by omega, rfl⟩
    · exact hss_nil ⟨by omega, by omega, y1, a3, by omega, rfl⟩
  rintro n' Γ' ⟨q1, q2, y, q3, q4, rfl⟩
  have hyS : y.length ≤ sizeLine := by show y.length ≤ 16777216; omega
  repeat infer_instance
  obtain ⟨i3, m3, e3⟩ := cutS_part y none (some (m : Int))
  exact hk _ _ q2 q1 (q3.part e3) (cutS_le y m)
end
end K03

set_option Elab.async false
set_option linter.all false
set_option maxRecDepth 100000
set_option maxHeartbeats 4000000
namespace K03
open PySem PySem.Spec PyProof.Rows L2 DL Evl
local macro_rules
| `(tactic| infer_instance) => `(tactic| first
  | (with_reducible show ∃ _, OT.frz _ = _ ∧ _
     refine ⟨_, rfl, ?_⟩)
  | (with_reducible show ∃ _, OT.d (OT.frz _) = _ ∧ _
     refine ⟨_, rfl, ?_⟩)
  | (with_reducible show HSs _ _ _ _ _
     first | refine hss_nil ?_ | refine hss_one ?_ | refine hss_cons ?_)
  | (with_reducible show HS _ _ _ _ _
     first
     | refine hs_ret ?_ | refine hs_if ?_ | refine hs_expr ?_ | refine hs_retN ?_ | refine hs_pass ?_ | refine hs_break ?_ | refine hs_continue ?_
     | refine hs_set 0 ?_ (by assumption) rfl (by first | exact .inl rfl | exact .inr rfl)
     | refine hs_set 1 ?_ (by assumption) rfl (by first | exact .inl rfl | exact .inr rfl)
     | refine hs_set 2 ?_ (by assumption) rfl (by first | exact .inl rfl | exact .inr rfl)
     | refine hs_set 3 ?_ (by assumption) rfl (by first | exact .inl rfl | exact .inr rfl)
     | refine hs_set 4 ?_ (by assumption) rfl (by first | exact .inl rfl | exact .inr rfl)
     | refine hs_set 5 ?_ (by assumption) rfl (by first | exact .inl rfl | exact .inr rfl)
     | refine hs_set 6 ?_ (by assumption) rfl (by first | exact .inl rfl | exact .inr rfl)
     | refine hs_set 7 ?_ (by assumption) rfl (by first | exact .inl rfl | exact .inr rfl)
     | refine hs_set 8 ?_ (by assumption) rfl (by first | exact .inl rfl | exact .inr rfl)
     | refine hs_set 9 ?_ (by assumption) rfl (by first | exact .inl rfl | exact .inr rfl)
     | refine hs_set 10 ?_ (by assumption) rfl (by first | exact .inl rfl | exact .inr rfl)
     | refine hs_set 11 ?_ (by assumption) rfl (by first | exact .inl rfl | exact .inr rfl)
     | refine hs_set 12 ?_ (by assumption) rfl (by first | exact .inl rfl | exact .inr rfl)
     | refine hs_set 13 ?_ (by assumption) rfl (by first | exact .inl rfl | exact .inr rfl)
     | refine hs_set 14 ?_ (by assumption) rfl (by first | exact .inl rfl | exact .inr rfl))
  | (with_reducible show HE _ (.Name _ _) _ _ _
     first
     | refine he_v 0 rfl rfl ?_ | refine he_v 1 rfl rfl ?_ | refine he_v 2 rfl rfl ?_ | refine he_v 3 rfl rfl ?_ | refine he_v 4 rfl rfl ?_
     | refine he_v 5 rfl rfl ?_ | refine he_v 6 rfl rfl ?_ | refine he_v 7 rfl rfl ?_ | refine he_v 8 rfl rfl ?_ | refine he_v 9 rfl rfl ?_
     | refine he_v 10 rfl rfl ?_ | refine he_v 11 rfl rfl ?_ | refine he_v 12 rfl rfl ?_ | refine he_v 13 rfl rfl ?_ | refine he_v 14 rfl rfl ?_
     | refine he_gint (by assumption) rfl ?_ | refine he_gstr (by assumption) rfl ?_)
  | (with_reducible show HE _ (.Constant _ _ _) _ _ _
     first | refine he_int ?_ | refine he_str ?_ | refine he_bl ?_ | refine he_non ?_)
  | (with_reducible show HE _ (.Call (.Name _ _) _ _ _) _ _ _
     first
     | refine he_c1 (by assumption) (by assumption) rfl ?_
     | refine he_c2 (by assumption) (by assumption) rfl ?_
     | refine he_c3 (by assumption) (by assumption) rfl ?_
     | refine he_isRow (by assumption) (by assumption) (by assumption) ?_
     | refine he_isi isInt T_isInt b_int (by assumption) (by assumption) ?_
     | refine he_isi isBl T_isBl b_bool (by assumption) (by assumption) ?_
     | refine he_isi isStr T_isStr b_str (by assumption) (by assumption) ?_
     | refine he_isi isLst T_isLst b_list (by assumption) (by assumption) ?_
     | refine he_isi isTup T_isTup b_tuple (by assumption) (by assumption) ?_
     | refine he_isi isDct T_isDct b_dict (by assumption) (by assumption) ?_
     | refine he_f1 b_len (by assumption) ?_
     | refine he_f1 b_all (by assumption) ?_
     | refine he_f1 b_any (by assumption) ?_
     | refine he_f1 b_sorted (by assumption) ?_
     | refine he_t1 b_list (by assumption) ?_
     | refine he_t1 b_tuple (by assumption) ?_
     | refine he_t1 b_int (by assumption) ?_
     | refine he_t1 b_str (by assumption) ?_)
  | (with_reducible show HE _ (.BinOp _ _ _ _) _ _ _
     refine he_bin ?_)
  | (with_reducible show HE _ (.Compare _ _ _ _) _ _ _
     first | refine he_cmp ?_ | refine he_chain ?_)
  | (with_reducible show HE _ (.UnaryOp _ _ _) _ _ _
     first | refine he_not ?_ | refine he_neg (i := 0) ?_)
  | (with_reducible show HE _ (.IfExp _ _ _ _) _ _ _
     refine he_if ?_)
  | (with_reducible show HE _ (.Subscript _ _ _) _ _ _
     first | refine he_sl ?_ | refine he_ix ?_)
  | (with_reducible show HE _ (.Tuple _ _ _) _ _ _
     refine he_frz (he_tup ?_))
  | (with_reducible show HE _ (.List _ _) _ _ _
     refine he_list ?_)
  | (with_reducible show HE _ (.BoolOp _ _ _) _ _ _
     first | refine he_one ?_ | refine he_and ?_ | refine he_or ?_)
  | (with_reducible show HE _ (.Dict [] [] _) _ _ _
     refine he_dct0 ?_)
  | (with_reducible show HE _ (.Call (.Attribute _ _ _) _ _ _) _ _ _
     first | refine he_join ?_ | refine he_starts3 ?_)
  | (with_reducible show HE _ (.Attribute _ _ _) _ _ _
     refine he_fld ?_)
  | (with_reducible show ∃ _ _ _ _, OT.frz _ = _ ∧ Cls _ _ ∧ _
     refine ⟨_, _, _, _, rfl, by assumption, by assumption, rfl, ?_⟩)
  | (with_reducible show ∃ _ _, [OT.frz _, OT.frz _] = [OT.frz (.str _), OT.frz (.int _)] ∧ _
     refine ⟨_, _, rfl, ?_⟩)
  | (with_reducible show HT _ (.Name _ _) _ _ _
     refine ht_bl ?_
     infer_instance
     with_reducible refine ⟨_, rfl, ?_⟩)
  | (with_reducible show HT _ (.Call _ _ _ _) _ _ _
     refine ht_bl ?_)
  | (with_reducible show HT _ _ _ _ _
     first
     | refine ht_not ?_ | refine ht_cmp ?_ | refine ht_chain ?_ | (refine ht_w ?_; first | refine hw_and ?_ | refine hw_or ?_))
  | (with_reducible show HW _ _ _ _ _
     first | refine hw_and1 ?_ | refine hw_or1 ?_ | refine hw_and ?_ | refine hw_or ?_)
  | (with_reducible show HA _ _ _ _ _
     first | refine ha_nil ?_ | refine ha_cons ?_)
  | (with_reducible show HO2 _ (cB _ .Add) _ _ _ _ _
     first | refine o_add ?_ | refine o_cat (by first | assumption | omega) ?_ | refine o_catO rfl rfl (by first | assumption | omega) ?_)
  | (with_reducible show HO2 _ (cB _ .Sub) _ _ _ _ _
     first | refine o_sub ?_)
  | (with_reducible show HO2 _ (cC _ .Eq) _ _ _ _ _
     first | refine o_eqI ?_ | refine o_eqS ?_ | refine o_eqB ?_)
  | (with_reducible show HO2 _ (cC _ .NotEq) _ _ _ _ _
     first | refine o_neI ?_ | refine o_neS ?_ | refine o_neB ?_)
  | (with_reducible show HO2 _ (cC _ .Lt) _ _ _ _ _
     first | refine o_lt ?_)
  | (with_reducible show HO2 _ (cC _ .LtE) _ _ _ _ _
     first | refine o_le ?_)
  | (with_reducible show HO2 _ (cC _ .Gt) _ _ _ _ _
     first | refine o_gt ?_)
  | (with_reducible show HO2 _ (cC _ .GtE) _ _ _ _ _
     first | refine o_ge ?_)
  | (with_reducible show HO2 _ (cC _ .Is) _ _ _ _ _
     first | refine o_isN ?_)
  | (with_reducible show HO2 _ (cC _ .IsNot) _ _ _ _ _
     first | refine o_notN ?_)
  | (with_reducible show HO2 _ (cC _ .In) _ _ _ _ _
     first | refine o_inS ?_)
  | (with_reducible show HO2 _ (cC _ .NotIn) _ _ _ _ _
     first | refine o_ninS ?_)
  | (with_reducible show HO2 _ (cX _) _ _ _ _ _
     first | refine o_ixL (by first | assumption | rfl) ?_ | refine o_ixT (by first | assumption | rfl) ?_)
  | (with_reducible show HF _ _ _ _ _ _
     first
     | refine hf_lenL ?_ | refine hf_lenT ?_ | refine hf_lenS ⟨by first | assumption | omega, ?_⟩ | refine hf_listL ?_ | refine hf_listT ?_ | refine hf_tupL ?_ | refine hf_tupT ?_ | refine hf_int ?_ | refine hf_intB ?_ | refine hf_strS ?_)
  | (with_reducible show HPo _ _ _ _ _
     first | refine hp_none ?_ | refine hp_some ?_)
  | (with_reducible show HSl _ _ _ _ _ _ _
     first | refine sl_L ?_ | refine sl_S (by first | assumption | omega) ?_)
  | (with_reducible show HGs _ _ _ _ _ _
     first | refine hgs_nil ?_ | refine hgs_cons ?_)
  | (with_reducible show HG _ _ _ _ _ _
     first | refine hg_name _ ⟨Nat.le_of_ble_eq_true rfl, by first | exact pinP _ _ _ | rfl, ?_⟩ | refine hg_tup rfl ?_)
  | (with_reducible show HEb _ _ _ _ _ _
     intro _ _ _ _ _)
  | (with_reducible show HTb _ _ _ _ _ _
     intro _ _ _ _ _)
  | (with_reducible show _ < _ ∧ _ = none ∧ _
     refine ⟨Nat.le_of_ble_eq_true rfl, by first | exact pinP _ _ _ | rfl, ?_⟩)
  | (with_reducible show _ ≤ 100000 ∧ _
     refine ⟨Nat.le_of_ble_eq_true rfl, ?_⟩)
  | (with_reducible show ite (true = true) _ _
     rw [if_pos rfl])
  | (with_reducible show ite (false = true) _ _
     rw [if_neg Bool.false_ne_true])
  | (with_reducible show ite ((!true) = true) _ _
     rw [Bool.not_true, if_neg Bool.false_ne_true])
  | (with_reducible show ite ((!false) = true) _ _
     rw [Bool.not_false, if_pos rfl]))
/-! ### _law_kraised, _law_krefuses -/
def kindN : Nat → Str
  | 0 => "rules"
  | 1 => "letters"
  | 2 => "pairs"
  | 3 => "word"
  | 4 => "other"
  | 5 => "far"
  | 6 => "step"
  | 7 => "row"
  | 8 => "trees"
  | 9 => "many"
  | 10 => "length"
  | 11 => "machine"
  | _ => "too many"
def fldN : Nat → Str
  | 2 => "index"
  | 7 => "index"
  | 12 => "many"
  | _ => "thing"
structure ErrM (K : PySem.W.Frag) (mg : Str → Option Value) (E : Nat → Addr) : Prop where
  g0 : mg "BadRules" = some (.ref (E 0))
  g1 : mg "BadLetters" = some (.ref (E 1))
  g2 : mg "BadPairs" = some (.ref (E 2))
  g3 : mg "BadWord" = some (.ref (E 3))
  g4 : mg "BadOther" = some (.ref (E 4))
  g5 : mg "BadFar" = some (.ref (E 5))
  g6 : mg "BadStep" = some (.ref (E 6))
  g7 : mg "BadRow" = some (.ref (E 7))
  g8 : mg "BadTrees" = some (.ref (E 8))
  g9 : mg "BadMany" = some (.ref (E 9))
  g10 : mg "BadLength" = some (.ref (E 10))
  g11 : mg "BadMachine" = some (.ref (E 11))
  g12 : mg "TooMany" = some (.ref (E 12))
  ex : ∀ i j, i < 13 → j < 13 → PySem.W.exmOne K (.ref (E i)) (.ref (E j)) = some (decide (i = j))
  xf : ∀ i, i < 13 → XfC K (E i)
  no : ∀ i, i < 13 → PySem.W.findIn K (.ref (E i)) (fldN i) = some none
def sp_kraised (E : Nat → Addr) : GSpec := fun n KL XL KP => (∀ n' r, KL n' r → KP n' (.frz .non)) ∧ ∀ n' C ns ds, XL n' C ns ds → ∃ i d, i < 13 ∧ C = E i ∧ ns = [fldN i] ∧ ds = [d] ∧ KP n' (.frz (.tup [.str (kindN i), d]))
section
variable {P : Program} {w : World} {K : PySem.W.Frag} {mg : Str → Option Value} {base : Heap} {st cs : Addr} {T : List (Addr × Str)} {E : Nat → Addr}
abbrev Nra : List Str := ["run", "found", "e"]
theorem sc_kraised : FnScope Nra ["run"] (defScope (top 55)) := ⟨rfl, rfl, rfl, by decide +kernel, rfl, by decide +kernel, by decide +kernel⟩
theorem ok_kraised (d : Def1 K mg "_law_kraised" (top 55)) (M : ErrM K mg E) : OkL P w K mg base ⟨K, st, cs, T⟩ "_law_kraised" "run" (top 55) Nra (sp_kraised E) := by
  have nd := sc_kraised.nd
  refine okL_of d sc_kraised rfl (.inl rfl) (fun g cdg A stack s' H B f c' q tl n KL XL KP hrun hc ne1 ne2 hlam ⟨k1, k2⟩ => ?_) fun _ _ _ _ _ _ us hl => match us, hl with | [_], _ => rfl
  refine hss_cons (hs_set 1 (he_non ⟨by show (1 : Nat) < 3; decide, rfl, ?_⟩) nd rfl (.inl rfl))
  refine hss_cons (hs_post (fun n3 Γ3 => ∃ y, Γ3[1]? = some (some (.frz y)) ∧ KP n3 (.frz y)) ?_ ?_)
  · refine hs_try _ (fun n' Γ C ns ds => Γ = List.replicate 3 none ∧ XL n' C ns ds) nd (mix_cons (o := some 2) M.g0 (mix_cons (o := some 2) M.g1 (mix_cons (o := some 2) M.g2 (mix_cons (o := some 2) M.g3 (mix_cons (o := some 2) M.g4 (mix_cons (o := some 2) M.g5 (mix_cons (o := some 2) M.g6 (mix_cons (o := some 2) M.g7 (mix_cons (o := some 2) M.g8 (mix_cons (o := some 2) M.g9 (mix_cons (o := some 2) M.g10 (mix_cons (o := some 2) M.g11 (mix_cons (o := some 2) M.g12 (mix_nil) ⟨rfl, rfl⟩) ⟨rfl, rfl⟩) ⟨rfl, rfl⟩) ⟨rfl, rfl⟩) ⟨rfl, rfl⟩) ⟨rfl, rfl⟩) ⟨rfl, rfl⟩) ⟨rfl, rfl⟩) ⟨rfl, rfl⟩) ⟨rfl, rfl⟩) ⟨rfl, rfl⟩) ⟨rfl, rfl⟩) ⟨rfl, rfl⟩) ?_ ?_
    · rintro n' Γ C ns ds ⟨rfl, hX⟩
      obtain ⟨i, d, hi, rfl, rfl, rfl, hk⟩ := k2 n' C ns ds hX
      obtain rfl | rfl | rfl | rfl | rfl | rfl | rfl | rfl | rfl | rfl | rfl | rfl | rfl := (by omega : i = 0 ∨ i = 1 ∨ i = 2 ∨ i = 3 ∨ i = 4 ∨ i = 5 ∨ i = 6 ∨ i = 7 ∨ i = 8 ∨ i = 9 ∨ i = 10 ∨ i = 11 ∨ i = 12)
      all_goals repeat (refine ⟨false, M.ex _ _ (by decide) (by decide), (fun h => by cases h), fun _ => ?_⟩)
      all_goals refine ⟨true, M.ex _ _ (by decide) (by decide), fun _ => ⟨⟨by decide, rfl⟩, fun a oe pn E' xa hP => ?_⟩, fun h => by cases h⟩
      all_goals refine hss_one (hs_set 1 (he_frz (he_tup (ha_cons (he_str (ha_cons (he_xf 2 xa (M.xf _ (by decide)) (M.no _ (by decide)) (d := d) rfl rfl rfl (.inl rfl) ?_)))))) nd rfl (.inl rfl))
      all_goals exact ha_nil ⟨by show (2 : Nat) ≤ 100000; decide, by show (1 : Nat) < 3; decide, by show E'.P.getD 1 none = none; rw [hP]; rfl, _, rfl, hk⟩
    · intro pn xe E' W' tk xo po hP hlink
      refine hss_one (hs_expr ?_)
      refine he_run hrun hc ne1 ne2 hlam rfl hP (fun a => ?_) (fun n' r hr => ⟨.non, rfl, k1 n' r hr⟩) fun n' C ns ds h => ⟨rfl, h⟩
      obtain ⟨Δ', vs', G', a2⟩ := hlink a
      exact a2.evo
  · rintro n' Γ' ⟨y, h1, h2⟩
    exact hss_one (hs_ret (he_v 1 rfl h1 h2))
def sp_krefuses (E : Nat → Addr) : GSpec2 := fun d1 d2 n KL XL KP => (∀ n' r, ¬ KL n' r) ∧ ∃ i, i < 13 ∧ d1 = .str (kindN i) ∧ okS 3 d2 = true ∧ ∀ n' C ns ds, XL n' C ns ds → C = E i ∧ ns = [fldN i] ∧ ds = [d2] ∧ KP n' (.frz (.bl true))
abbrev Nrf : List Str := ["kind", "thing", "run", "found"]
theorem sc_krefuses : FnScope Nrf ["kind", "thing", "run"] (defScope (top 56)) := ⟨rfl, rfl, rfl, by decide +kernel, rfl, by decide +kernel, by decide +kernel⟩
theorem ok_krefuses (k : Nat) (d : Def1 K mg "_law_krefuses" (top 56)) (O1 : OkL P w K mg base ⟨K, st, cs, T⟩ "_law_kraised" "run" (top 55) Nra (sp_kraised E)) (O2 : OkF P w K mg base ⟨K, st, cs, T⟩ (k + 1) "_law_same" ["found", "due"] (pureSp (sp_same 3))) :
    OkL2 P w K mg base ⟨K, st, cs, T⟩ (k + 1) "_law_krefuses" "kind" "thing" "run" (top 56) Nrf (sp_krefuses E) := by
  have nd := sc_krefuses.nd
  refine okL2_of d sc_krefuses (fun g cdg A stack s' H B f c' q tl d1 d2 n KL XL KP hr hrun hc ne1 ne2 hlam ⟨k1, i, hi, e1, hd2, k2⟩ => ?_) fun _ _ _ _ _ _ us hl => match us, hl with | [_, _, _], _ => rfl
  subst e1
  refine hss_cons (hs_set 3 (he_runcall (i := 2) O1 hrun hr hc ne1 ne2 hlam rfl rfl (.inl rfl) rfl ⟨fun n' r h => absurd h (k1 n' r), fun n' C ns ds hX => ?_⟩) nd rfl (.inl rfl))
  obtain ⟨a1, a2, a3, a4⟩ := k2 n' C ns ds hX
  refine ⟨i, d2, hi, a1, a2, a3, by show (3 : Nat) < 4; decide, rfl, ?_⟩
  repeat infer_instance
  refine iteT rfl ?_
  repeat infer_instance
  refine iteT (by simp) ?_
  refine he_one (he_c2 O2 hr rfl (he_ix (he_v 3 rfl rfl (he_int (o_ixT rfl (he_v 1 rfl rfl ⟨d2, rfl, hd2, a4⟩))))))
end
end K03

set_option Elab.async false
set_option linter.all false
set_option maxRecDepth 100000
set_option maxHeartbeats 4000000
namespace K03
open PySem PySem.Spec PyProof.Rows L2 DL Evl
/-! ### the things that the law judges: plain laws -/
theorem okS_flat {j : Nat} {d : D} (h1 : plain d = true) (h2 : isRow d = false) (h3 : isDct d = false) : okS j d = true := by
  cases j with
  | zero =>
    show (plain d && !isRow d && !isDct d) = true
    rw [h1, h2, h3]; rfl
  | succ j =>
    unfold okS
    rw [h1, h2]
    cases d <;> first | rfl | cases h3
theorem okS_rowI {j : Nat} {d : D} (h1 : isRow d = true) (h2 : ∀ c ∈ rowD d, okS j c = true) (h3 : (rowD d).length ≤ 100000) : okS (j + 1) d = true := by
  have hp : plain d = true := by cases d <;> first | rfl | cases h1
  have hd : isDct d = false := by cases d <;> first | rfl | cases h1
  unfold okS
  rw [hp, h1, List.all_eq_true.mpr h2, decide_eq_true h3]
  cases d <;> first | rfl | cases hd
theorem sm_no {ls : List Str} (hs : ∀ l ∈ ls, isSm l) {x : Str} {c : Nat} (hc : c ∈ x.cps.toList) (h : SMALL.cps.toList.contains c = false) : ofL ls x = false := by
  cases q : ofL ls x with
  | false => rfl
  | true =>
    unfold ofL at q
    have h1 := of_decide_eq_true (List.all_eq_true.mp q c hc)
    obtain ⟨d, e, hd⟩ := hs _ h1
    have : d = c := by
      have e2 : (sg c).cps.toList = (sg d).cps.toList := by rw [e]
      simpa using e2.symm
    subst this
    rw [List.contains_iff_mem.mpr hd] at h
    cases h
theorem isOf_no {ls : List Str} {x : Str} {m : Int} (h : ofL ls x = false) : isOf ls (.str x) m = false := by
  show (decide ((x.length : Int) ≤ m) && ofL ls x) = false
  rw [h, Bool.and_false]
/-- an item of a thing -/
def okC (c : D) : Prop := c = .non ∨ (∃ s : Str, c = .str s ∧ txtOk s = true) ∨ ∃ ss : List Str, (c = .lst (ss.map .str) ∨ c = .tup (ss.map .str)) ∧ ss.length ≤ 200 ∧ ∀ s ∈ ss, txtOk s = true
/-- a thing -/
def okT (t : D) : Prop := (∃ cs : List D, (t = .lst cs ∨ t = .tup cs) ∧ cs.length ≤ 300 ∧ ∀ c ∈ cs, okC c) ∨ t = .non ∨ (∃ i, t = .int i) ∨ (∃ s : Str, t = .str s ∧ txtOk s = true) ∨ t = .dct [] []
theorem okC.plain {c : D} (h : okC c) : plain c = true ∧ isDct c = false := by
  rcases h with rfl | ⟨s, rfl, _⟩ | ⟨ss, rfl | rfl, _⟩ <;> exact ⟨rfl, rfl⟩
theorem okC.okL {c : D} (h : okC c) : okL 2 c = true := by
  rcases h with rfl | ⟨s, rfl, _⟩ | ⟨ss, rfl | rfl, h1, _⟩
  · rfl
  · rfl
  all_goals
    refine okL_rowI rfl (fun c hc => ?_) (by show (ss.map D.str).length ≤ _; rw [List.length_map]; omega)
    obtain ⟨x, _, rfl⟩ := List.mem_map.mp hc
    rfl
theorem okC.okS {c : D} (h : okC c) : okS 2 c = true := by
  rcases h with rfl | ⟨s, rfl, _⟩ | ⟨ss, rfl | rfl, h1, _⟩
  · rfl
  · rfl
  all_goals
    refine okS_rowI rfl (fun c hc => ?_) (by show (ss.map D.str).length ≤ _; rw [List.length_map]; omega)
    obtain ⟨x, _, rfl⟩ := List.mem_map.mp hc
    rfl
theorem okC.cost {c : D} (h : okC c) : costL 2 c ≤ 1 := by
  have z : ∀ ss : List Str, ((ss.map D.str).map (costL 1)).sum = 0 := fun ss => by
    rw [List.map_map, sum_const (f := costL 1 ∘ D.str) (m := 0) (fun x _ => rfl)]
    omega
  rcases h with rfl | ⟨s, rfl, _⟩ | ⟨ss, rfl | rfl, h1, _⟩
  · decide
  · exact Nat.zero_le _
  · show ((ss.map D.str).map (costL 1)).sum + 1 ≤ 1
    rw [z]; exact Nat.le_refl _
  · show ((ss.map D.str).map (costL 1)).sum + 1 ≤ 1
    rw [z]; exact Nat.le_refl _
theorem okC.ask {c : D} (h : okC c) : askOk c := by
  rcases h with rfl | ⟨s, rfl, h⟩ | ⟨ss, rfl | rfl, _⟩
  · exact ⟨rfl, fun x e => by cases e⟩
  · exact ask_str h
  · exact ⟨rfl, fun x e => by cases e⟩
  · exact ⟨rfl, fun x e => by cases e⟩
theorem okC.toP {c : D} (h : okC c) : ∃ p, toP c = some p ∧ PyData.canLay0 p = true ∧ PyData.depth p ≤ 60 := by
  rcases h with rfl | ⟨s, rfl, h⟩ | ⟨ss, rfl | rfl, _, h⟩
  · exact ⟨_, rfl, rfl, by decide⟩
  · exact ⟨_, rfl, txtOk_lay h, by show (0 : Nat) ≤ 60; decide⟩
  · refine ⟨.list (ss.map .str), by show (toPs _).map PyData.list = _; rw [toPs_strs]; rfl, lay_strs fun x hx => txtOk_lay (h x hx), ?_⟩
    show PyData.depthAll (ss.map PyData.str) + 1 ≤ 60
    rw [dep_strs]; decide
  · refine ⟨.tuple (ss.map .str), by show (toPs _).map PyData.tuple = _; rw [toPs_strs]; rfl, lay_strs fun x hx => txtOk_lay (h x hx), ?_⟩
    show PyData.depthAll (ss.map PyData.str) + 1 ≤ 60
    rw [dep_strs]; decide
theorem okC.loose {c r : D} (h : okC c) (hl : LooseN 2 c r) : okC r := by
  rcases h with rfl | ⟨s, rfl, h⟩ | ⟨ss, hc, h1, h2⟩
  · rw [loose_flat hl rfl]; exact .inl rfl
  · rw [loose_flat hl rfl]; exact .inr (.inl ⟨s, rfl, h⟩)
  · have hr : isRow c = true := by rcases hc with rfl | rfl <;> rfl
    have hd : rowD c = ss.map .str := by rcases hc with rfl | rfl <;> rfl
    obtain ⟨rs, a1, a2, a3⟩ := loose_row hl hr
    have e : rs = ss.map D.str := by
      rw [hd] at a1
      refine all2_flat a1 fun a ha => ?_
      obtain ⟨x, _, rfl⟩ := List.mem_map.mp ha
      rfl
    subst e
    refine .inr (.inr ⟨ss, ?_, h1, h2⟩)
    cases r with
    | lst xs => exact .inl (by rw [show xs = ss.map D.str from a3])
    | tup xs => exact .inr (by rw [show xs = ss.map D.str from a3])
    | _ => cases a2
theorem okT.row {t : D} (h : okT t) (hr : isRow t = true) : (rowD t).length ≤ 300 ∧ ∀ c ∈ rowD t, okC c := by
  rcases h with ⟨cs, rfl | rfl, h1, h2⟩ | rfl | ⟨i, rfl⟩ | ⟨s, rfl, _⟩ | rfl
  · exact ⟨h1, h2⟩
  · exact ⟨h1, h2⟩
  all_goals cases hr
theorem okT.rowD {t : D} (h : okT t) : (rowD t).length ≤ 300 ∧ ∀ c ∈ rowD t, okC c := by
  rcases h with ⟨cs, rfl | rfl, h1, h2⟩ | rfl | ⟨i, rfl⟩ | ⟨s, rfl, _⟩ | rfl
  · exact ⟨h1, h2⟩
  · exact ⟨h1, h2⟩
  all_goals exact ⟨Nat.zero_le _, fun c hc => by cases hc⟩
theorem okT.plain {t : D} (h : okT t) : plain t = true := by
  rcases h with ⟨cs, rfl | rfl, h1, h2⟩ | rfl | ⟨i, rfl⟩ | ⟨s, rfl, _⟩ | rfl <;> rfl
theorem okT.th2 {t : D} (h : okT t) : thOk2 t := ⟨⟨h.plain, by have := h.rowD.1; omega, fun c hc => (h.rowD.2 c hc).ask⟩, fun c hc => (h.rowD.2 c hc).toP⟩
theorem okT.okL {t : D} (h : okT t) : okL 3 t = true := by
  have hr := h.rowD
  rcases h with ⟨cs, rfl | rfl, h1, h2⟩ | rfl | ⟨i, rfl⟩ | ⟨s, rfl, _⟩ | rfl
  · exact okL_rowI rfl (fun c hc => (h2 c hc).okL) (by omega)
  · exact okL_rowI rfl (fun c hc => (h2 c hc).okL) (by omega)
  all_goals rfl
theorem okT.okS {t : D} (h : okT t) : okS 3 t = true := by
  have hr := h.rowD
  rcases h with ⟨cs, rfl | rfl, h1, h2⟩ | rfl | ⟨i, rfl⟩ | ⟨s, rfl, _⟩ | rfl
  · exact okS_rowI rfl (fun c hc => (h2 c hc).okS) (by omega)
  · exact okS_rowI rfl (fun c hc => (h2 c hc).okS) (by omega)
  all_goals rfl
theorem sum_le : ∀ {l : List D}, (∀ c ∈ l, costL 2 c ≤ 1) → (l.map (costL 2)).sum ≤ l.length
  | [], _ => Nat.le_refl _
  | x :: l, h => by
    have h1 := h x List.mem_cons_self
    have h2 := sum_le fun y hy => h y (List.mem_cons_of_mem _ hy)
    rw [List.map_cons, List.sum_cons, List.length_cons]
    omega
theorem okT.cost {t : D} (h : okT t) : costL 3 t ≤ 301 := by
  have hr := h.rowD
  have hs := sum_le fun c hc => (hr.2 c hc).cost
  show (if isRow t = true then ((DL.rowD t).map (costL 2)).sum + 1 else 0) ≤ 301
  split <;> omega
theorem okT.loose {t r : D} (h : okT t) (hl : LooseN 3 t r) : okT r := by
  by_cases q : isRow t = true
  · obtain ⟨h1, h2⟩ := h.row q
    obtain ⟨rs, a1, a2, a3⟩ := loose_row hl q
    refine .inl ⟨rs, ?_, by rw [← a1.1]; exact h1, fun c hc => ?_⟩
    · cases r with
      | lst xs => exact .inl (by rw [show xs = rs from a3])
      | tup xs => exact .inr (by rw [show xs = rs from a3])
      | _ => cases a2
    · obtain ⟨i, hi⟩ := List.getElem?_of_mem hc
      have hil : i < (DL.rowD t).length := by rw [a1.1]; exact (List.getElem?_eq_some_iff.mp hi).1
      exact (h2 _ (List.getElem_mem hil)).loose (a1.2 i _ _ (List.getElem?_eq_getElem hil) hi)
  · have q : isRow t = false := by simpa using q
    rw [loose_flat hl q]
    exact h
theorem isOf_row {ls : List Str} {c : D} {m : Int} (h : isRow c = true) : isOf ls c m = false := by cases c <;> first | rfl | cases h
theorem isOf_loose {ls : List Str} {j : Nat} {c r : D} {m : Int} (h : LooseN j c r) : isOf ls r m = isOf ls c m := by
  by_cases q : isRow c = true
  · cases j with
    | zero => rw [show r = c from h]
    | succ j =>
      obtain ⟨rs, _, a2, _⟩ := loose_row h q
      rw [isOf_row q, isOf_row a2]
  · have q : isRow c = false := by simpa using q
    rw [loose_flat h q]
theorem wfault_loose {ls : List Str} {rs : List Ru} {x : Str} {j : Nat} {t r : D} (h : LooseN (j + 1) t r) : wfault ls rs x r = wfault ls rs x t := by
  by_cases q : isRow t = true
  · obtain ⟨us, a1, a2, a3⟩ := loose_row h q
    by_cases hall : (rowD t).all (fun c => isOf ls c 60) = true
    · have e : us = rowD t := all2_flat a1 fun a ha => by
        obtain ⟨y, rfl, _⟩ := isOf_inv (List.all_eq_true.mp hall a ha)
        rfl
      unfold wfault
      rw [q, a2, a3, e]
    · have hall2 : ¬ us.all (fun c => isOf ls c 60) = true := fun h2 => hall (List.all_eq_true.mpr fun c hc => by
        obtain ⟨i, hi⟩ := List.getElem?_of_mem hc
        have hil : i < us.length := by rw [← a1.1]; exact (List.getElem?_eq_some_iff.mp hi).1
        rw [← isOf_loose (a1.2 i _ _ hi (List.getElem?_eq_getElem hil))]
        exact List.all_eq_true.mp h2 _ (List.getElem_mem hil))
      have e1 : (rowD t).all (fun c => isOf ls c 60) = false := by simpa using hall
      have e2 : us.all (fun c => isOf ls c 60) = false := by simpa using hall2
      unfold wfault
      rw [a3, e1, e2]
      simp
  · have q : isRow t = false := by simpa using q
    rw [loose_flat h q]
theorem wfault_cases (ls : List Str) (rs : List Ru) (x : Str) (t : D) : wfault ls rs x t = .tup [.str "form"] ∨ wfault ls rs x t = .tup [.str "begin"] ∨ wfault ls rs x t = .non ∨ ∃ i : Nat, wfault ls rs x t = .tup [.str "step", .int (i : Int)] := by
  unfold wfault
  split
  · exact .inl rfl
  · split
    · split
      · split
        · exact .inr (.inr (.inr ⟨_, rfl⟩))
        · exact .inr (.inr (.inl rfl))
      · exact .inr (.inl rfl)
    · exact .inl rfl
theorem okS_told (ls : List Str) (rs : List Ru) (x : Str) (t : D) : okS 3 (.lst [wfault ls rs x t, wfault ls rs x t]) = true := by
  rcases wfault_cases ls rs x t with e | e | e | ⟨i, e⟩ <;> rw [e] <;> rfl
end K03

set_option Elab.async false
set_option linter.all false
set_option maxRecDepth 100000
set_option maxHeartbeats 4000000
namespace K03
open PySem PySem.Spec PyProof.Rows L2 DL Evl
theorem noth_ok {d : D} (h : d ∈ nothD) : plain d = true ∧ okS 3 d = true := by
  have h : d = .non ∨ d = .int 0 ∨ d = .str "a" ∨ d = .lst [] ∨ d = .dct [] [] ∨ d = .bl true ∨ d = .tup [.int 1, .lst [.str "a"], .lst [], .lst [.int 0], .lst [.int 0]] ∨ d = .lst [.str "a", .str "b"] := by simpa [nothD] using h
  rcases h with rfl | rfl | rfl | rfl | rfl | rfl | rfl | rfl <;> exact ⟨rfl, rfl⟩
theorem txt_two {c a : Nat} (hc : c < 0x110000) (ha : a < 0x110000) {x : Str} (hx : x.cps.toList = [c, a]) : txtOk x = true := by
  unfold txtOk
  rw [Bool.and_eq_true]
  have hl : x.length = 2 := by
    show x.cps.size = 2
    rw [← Array.length_toList, hx]; rfl
  refine ⟨?_, by rw [hl]; rfl⟩
  show (x.cps.all (· < 0x110000)) = true
  rw [← Array.all_toList, hx]
  simp [hc, ha]
theorem rep61_txt {l : Str} (hl : isSm l) : txtOk (strRep l 61) = true := by
  obtain ⟨c, rfl, hc⟩ := sm_lt hl
  have h1 : LayW [sg c] (sg c) := fun d hd => by
    have : d = c := by simpa using hd
    subst this
    exact ⟨by simp, hc⟩
  exact (h1.rep 61).ok (by rw [strRep_len]; show 1 * 61 ≤ _; decide)
theorem kno_ok {l : Str} {ls : List Str} (hs : ∀ l ∈ ls, isSm l) (hl : isSm l) {d : D} (h : d ∈ knoD l) : askOk d ∧ isOf ls d 60 = false ∧ okS 3 d = true := by
  have h : d = .non ∨ d = .int 5 ∨ d = .lst [.str l] ∨ d = .str "A" ∨ d = .str (l ++ "B") ∨ d = .str (strRep l 61) ∨ d = .tup [.str l] ∨ d = .bl true ∨ d = .str (l ++ "\n") ∨ d = .str (l ++ " ") ∨ d = .str "1" := by simpa [knoD] using h
  have hl2 := hl
  obtain ⟨c, rfl, hc⟩ := sm_lt hl
  have two : ∀ (a : Nat) (x : Str), x.cps.toList = [c, a] → a < 0x110000 → SMALL.cps.toList.contains a = false → askOk (.str x) ∧ isOf ls (.str x) 60 = false ∧ okS 3 (.str x) = true := fun a x hx ha hn =>
    ⟨ask_str (txt_two hc ha hx), isOf_no (sm_no hs (c := a) (by rw [hx]; simp) hn), rfl⟩
  rcases h with rfl | rfl | rfl | rfl | rfl | rfl | rfl | rfl | rfl | rfl | rfl
  · exact ⟨⟨rfl, fun x e => by cases e⟩, rfl, rfl⟩
  · exact ⟨⟨rfl, fun x e => by cases e⟩, rfl, rfl⟩
  · exact ⟨⟨rfl, fun x e => by cases e⟩, rfl, rfl⟩
  · refine ⟨⟨rfl, fun x e => by cases e; decide +kernel⟩, ?_, rfl⟩
    exact isOf_no (sm_no hs (c := 65) (by decide +kernel) (by decide +kernel))
  · exact two 66 _ rfl (by decide) (by decide +kernel)
  · refine ⟨ask_str (rep61_txt hl2), ?_, rfl⟩
    have hlen : ¬ ((strRep (sg c) 61).length : Int) ≤ 60 := by rw [strRep_len]; show ¬ ((1 * 61 : Nat) : Int) ≤ 60; decide
    show (decide (((strRep (sg c) 61).length : Int) ≤ 60) && ofL ls (strRep (sg c) 61)) = false
    rw [decide_eq_false hlen, Bool.false_and]
  · exact ⟨⟨rfl, fun x e => by cases e⟩, rfl, rfl⟩
  · exact ⟨⟨rfl, fun x e => by cases e⟩, rfl, rfl⟩
  · exact two 10 _ rfl (by decide) (by decide +kernel)
  · exact two 32 _ rfl (by decide) (by decide +kernel)
  · refine ⟨⟨rfl, fun x e => by cases e; decide +kernel⟩, ?_, rfl⟩
    exact isOf_no (sm_no hs (c := 49) (by decide +kernel) (by decide +kernel))
/-! the things -/
theorem okT_items {cs : List D} (h1 : cs.length ≤ 300) (h2 : ∀ c ∈ cs, okC c) : okT (.lst cs) := .inl ⟨cs, .inl rfl, h1, h2⟩
theorem okC_str {s : Str} (h : txtOk s = true) : okC (.str s) := .inr (.inl ⟨s, rfl, h⟩)
theorem okT_strs {xs : List Str} (h1 : xs.length ≤ 300) (h2 : ∀ x ∈ xs, txtOk x = true) : okT (.lst (xs.map .str)) :=
  okT_items (by rw [List.length_map]; exact h1) fun c hc => by
    obtain ⟨x, hx, rfl⟩ := List.mem_map.mp hc
    exact okC_str (h2 x hx)
def thingsD (l x z : Str) (xs ys : List Str) (y : Str) (i : Nat) : List D :=
  [.lst (xs.map .str), .lst ((xs.take i ++ xs.drop (i + 1)).map .str), .lst ((xs.take i ++ [z] ++ xs.drop i).map .str), .lst (xs.reverse.map .str), .lst [.str z],
   .lst ((xs ++ [y]).map .str), .lst ((xs.take i ++ [z] ++ xs.drop (i + 1)).map .str), .lst [], .non, .int 5, .str x, .dct [] [], .lst (xs.map .str ++ [.non]),
   .lst ((xs ++ [("A" : Str)]).map .str), .lst [.lst (xs.map .str)], .lst ((xs ++ [strRep l 61]).map .str), .lst ((xs ++ ys.drop 1).map .str)]
theorem things_ok {l x z y : Str} {xs ys : List Str} {i : Nat} (hl : isSm l) (hx : txtOk x = true) (hz : txtOk z = true) (hy : txtOk y = true) (hxs : ∀ s ∈ xs, txtOk s = true) (hys : ∀ s ∈ ys, txtOk s = true) (lx : xs.length ≤ 61) (ly : ys.length ≤ 61) : ∀ t ∈ thingsD l x z xs ys y i, okT t := by
  intro t ht
  have A : txtOk ("A" : Str) = true := by decide +kernel
  have ta : ∀ n, ∀ s ∈ xs.take n, txtOk s = true := fun n s h => hxs s (List.mem_of_mem_take h)
  have dr : ∀ n, ∀ s ∈ xs.drop n, txtOk s = true := fun n s h => hxs s (List.mem_of_mem_drop h)
  have ap : ∀ {as bs : List Str}, (∀ s ∈ as, txtOk s = true) → (∀ s ∈ bs, txtOk s = true) → ∀ s ∈ as ++ bs, txtOk s = true := fun h1 h2 s hs => (List.mem_append.mp hs).elim (h1 s) (h2 s)
  have on : ∀ {a : Str}, txtOk a = true → ∀ s ∈ [a], txtOk s = true := fun h s hs => by rw [List.mem_singleton.mp hs]; exact h
  have lt : ∀ n, (xs.take n).length ≤ 61 := fun n => by rw [List.length_take]; omega
  have ld : ∀ n, (xs.drop n).length ≤ 61 := fun n => by rw [List.length_drop]; omega
  have ht : t = .lst (xs.map .str) ∨ t = .lst ((xs.take i ++ xs.drop (i + 1)).map .str) ∨ t = .lst ((xs.take i ++ [z] ++ xs.drop i).map .str) ∨ t = .lst (xs.reverse.map .str) ∨ t = .lst ([z].map .str) ∨
   t = .lst ((xs ++ [y]).map .str) ∨ t = .lst ((xs.take i ++ [z] ++ xs.drop (i + 1)).map .str) ∨ t = .lst [] ∨ t = .non ∨ t = .int 5 ∨ t = .str x ∨ t = .dct [] [] ∨ t = .lst (xs.map .str ++ [.non]) ∨
   t = .lst ((xs ++ [("A" : Str)]).map .str) ∨ t = .lst [.lst (xs.map .str)] ∨ t = .lst ((xs ++ [strRep l 61]).map .str) ∨ t = .lst ((xs ++ ys.drop 1).map .str) := by
    unfold thingsD at ht
    simp only [List.mem_cons, List.not_mem_nil, or_false] at ht
    exact ht
  have l1 := lt i
  have l2 := ld i
  have l3 := ld (i + 1)
  have l4 : (ys.drop 1).length ≤ 61 := by rw [List.length_drop]; omega
  rcases ht with rfl | rfl | rfl | rfl | rfl | rfl | rfl | rfl | rfl | rfl | rfl | rfl | rfl | rfl | rfl | rfl | rfl
  · exact okT_strs (by omega) hxs
  · exact okT_strs (by rw [List.length_append]; omega) (ap (ta _) (dr _))
  · exact okT_strs (by rw [List.length_append, List.length_append]; show _ + 1 + _ ≤ _; omega) (ap (ap (ta _) (on hz)) (dr _))
  · exact okT_strs (by rw [List.length_reverse]; omega) fun s hs => hxs s (List.mem_reverse.mp hs)
  · exact okT_strs (by show (1 : Nat) ≤ 300; decide) (on hz)
  · exact okT_strs (by rw [List.length_append]; show _ + 1 ≤ _; omega) (ap hxs (on hy))
  · exact okT_strs (by rw [List.length_append, List.length_append]; show _ + 1 + _ ≤ _; omega) (ap (ap (ta _) (on hz)) (dr _))
  · exact okT_strs (xs := []) (by decide) (fun _ h => by cases h)
  · exact .inr (.inl rfl)
  · exact .inr (.inr (.inl ⟨5, rfl⟩))
  · exact .inr (.inr (.inr (.inl ⟨x, rfl, hx⟩)))
  · exact .inr (.inr (.inr (.inr rfl)))
  · refine okT_items (by rw [List.length_append, List.length_map]; show _ + 1 ≤ _; omega) fun c hc => ?_
    rcases List.mem_append.mp hc with h | h
    · obtain ⟨s, hs, rfl⟩ := List.mem_map.mp h
      exact okC_str (hxs s hs)
    · rw [List.mem_singleton.mp h]
      exact .inl rfl
  · exact okT_strs (by rw [List.length_append]; show _ + 1 ≤ _; omega) (ap hxs (on A))
  · refine okT_items (by show (1 : Nat) ≤ 300; decide) fun c hc => ?_
    rw [List.mem_singleton.mp hc]
    exact .inr (.inr ⟨xs, .inl rfl, by omega, hxs⟩)
  · exact okT_strs (by rw [List.length_append]; show _ + 1 ≤ _; omega) (ap hxs (on (rep61_txt hl)))
  · exact okT_strs (by rw [List.length_append]; omega) (ap hxs fun s hs => hys s (List.mem_of_mem_drop hs))
end K03

set_option Elab.async false
set_option linter.all false
set_option maxRecDepth 100000
set_option maxHeartbeats 4000000
namespace K03
open PySem PySem.Spec PyProof.Rows L2 DL Evl
local macro_rules
| `(tactic| infer_instance) => `(tactic| first
  | (with_reducible show ∃ _, OT.frz _ = _ ∧ _
     refine ⟨_, rfl, ?_⟩)
  | (with_reducible show ∃ _, OT.d (OT.frz _) = _ ∧ _
     refine ⟨_, rfl, ?_⟩)
  | (with_reducible show HSs _ _ _ _ _
     first | refine hss_nil ?_ | refine hss_one ?_ | refine hss_cons ?_)
  | (with_reducible show HS _ _ _ _ _
     first
     | refine hs_ret ?_ | refine hs_if ?_ | refine hs_expr ?_ | refine hs_retN ?_ | refine hs_pass ?_ | refine hs_break ?_ | refine hs_continue ?_
     | refine hs_set 0 ?_ (by assumption) rfl (by first | exact .inl rfl | exact .inr rfl)
     | refine hs_set 1 ?_ (by assumption) rfl (by first | exact .inl rfl | exact .inr rfl)
     | refine hs_set 2 ?_ (by assumption) rfl (by first | exact .inl rfl | exact .inr rfl)
     | refine hs_set 3 ?_ (by assumption) rfl (by first | exact .inl rfl | exact .inr rfl)
     | refine hs_set 4 ?_ (by assumption) rfl (by first | exact .inl rfl | exact .inr rfl)
     | refine hs_set 5 ?_ (by assumption) rfl (by first | exact .inl rfl | exact .inr rfl)
     | refine hs_set 6 ?_ (by assumption) rfl (by first | exact .inl rfl | exact .inr rfl)
     | refine hs_set 7 ?_ (by assumption) rfl (by first | exact .inl rfl | exact .inr rfl)
     | refine hs_set 8 ?_ (by assumption) rfl (by first | exact .inl rfl | exact .inr rfl)
     | refine hs_set 9 ?_ (by assumption) rfl (by first | exact .inl rfl | exact .inr rfl)
     | refine hs_set 10 ?_ (by assumption) rfl (by first | exact .inl rfl | exact .inr rfl)
     | refine hs_set 11 ?_ (by assumption) rfl (by first | exact .inl rfl | exact .inr rfl)
     | refine hs_set 12 ?_ (by assumption) rfl (by first | exact .inl rfl | exact .inr rfl)
     | refine hs_set 13 ?_ (by assumption) rfl (by first | exact .inl rfl | exact .inr rfl)
     | refine hs_set 14 ?_ (by assumption) rfl (by first | exact .inl rfl | exact .inr rfl))
  | (with_reducible show HE _ (.Name _ _) _ _ _
     first
     | refine he_v 0 rfl rfl ?_ | refine he_v 1 rfl rfl ?_ | refine he_v 2 rfl rfl ?_ | refine he_v 3 rfl rfl ?_ | refine he_v 4 rfl rfl ?_
     | refine he_v 5 rfl rfl ?_ | refine he_v 6 rfl rfl ?_ | refine he_v 7 rfl rfl ?_ | refine he_v 8 rfl rfl ?_ | refine he_v 9 rfl rfl ?_
     | refine he_v 10 rfl rfl ?_ | refine he_v 11 rfl rfl ?_ | refine he_v 12 rfl rfl ?_ | refine he_v 13 rfl rfl ?_ | refine he_v 14 rfl rfl ?_
     | refine he_gint (by assumption) rfl ?_ | refine he_gstr (by assumption) rfl ?_)
  | (with_reducible show HE _ (.Constant _ _ _) _ _ _
     first | refine he_int ?_ | refine he_str ?_ | refine he_bl ?_ | refine he_non ?_)
  | (with_reducible show HE _ (.Call (.Name _ _) _ _ _) _ _ _
     first
     | refine he_c1 (by assumption) (by assumption) rfl ?_
     | refine he_c2 (by assumption) (by assumption) rfl ?_
     | refine he_c3 (by assumption) (by assumption) rfl ?_
     | refine he_isRow (by assumption) (by assumption) (by assumption) ?_
     | refine he_isi isInt T_isInt b_int (by assumption) (by assumption) ?_
     | refine he_isi isBl T_isBl b_bool (by assumption) (by assumption) ?_
     | refine he_isi isStr T_isStr b_str (by assumption) (by assumption) ?_
     | refine he_isi isLst T_isLst b_list (by assumption) (by assumption) ?_
     | refine he_isi isTup T_isTup b_tuple (by assumption) (by assumption) ?_
     | refine he_isi isDct T_isDct b_dict (by assumption) (by assumption) ?_
     | refine he_f1 b_len (by assumption) ?_
     | refine he_f1 b_all (by assumption) ?_
     | refine he_f1 b_any (by assumption) ?_
     | refine he_f1 b_sorted (by assumption) ?_
     | refine he_t1 b_list (by assumption) ?_
     | refine he_t1 b_tuple (by assumption) ?_
     | refine he_t1 b_int (by assumption) ?_
     | refine he_t1 b_str (by assumption) ?_)
  | (with_reducible show HE _ (.BinOp _ _ _ _) _ _ _
     refine he_bin ?_)
  | (with_reducible show HE _ (.Compare _ _ _ _) _ _ _
     first | refine he_cmp ?_ | refine he_chain ?_)
  | (with_reducible show HE _ (.UnaryOp _ _ _) _ _ _
     first | refine he_not ?_ | refine he_neg (i := 0) ?_)
  | (with_reducible show HE _ (.IfExp _ _ _ _) _ _ _
     refine he_if ?_)
  | (with_reducible show HE _ (.Subscript _ _ _) _ _ _
     first | refine he_sl ?_ | refine he_ix ?_)
  | (with_reducible show HE _ (.Tuple _ _ _) _ _ _
     refine he_frz (he_tup ?_))
  | (with_reducible show HE _ (.List _ _) _ _ _
     refine he_list ?_)
  | (with_reducible show HE _ (.BoolOp _ _ _) _ _ _
     first | refine he_one ?_ | refine he_and ?_ | refine he_or ?_)
  | (with_reducible show HE _ (.Dict [] [] _) _ _ _
     refine he_dct0 ?_)
  | (with_reducible show HE _ (.Call (.Attribute _ _ _) _ _ _) _ _ _
     first | refine he_join ?_ | refine he_starts3 ?_)
  | (with_reducible show HE _ (.Attribute _ _ _) _ _ _
     refine he_fld ?_)
  | (with_reducible show ∃ _ _ _ _, OT.frz _ = _ ∧ Cls _ _ ∧ _
     refine ⟨_, _, _, _, rfl, by assumption, by assumption, rfl, ?_⟩)
  | (with_reducible show ∃ _ _, [OT.frz _, OT.frz _] = [OT.frz (.str _), OT.frz (.int _)] ∧ _
     refine ⟨_, _, rfl, ?_⟩)
  | (with_reducible show HT _ (.Name _ _) _ _ _
     refine ht_bl ?_
     infer_instance
     with_reducible refine ⟨_, rfl, ?_⟩)
  | (with_reducible show HT _ (.Call _ _ _ _) _ _ _
     refine ht_bl ?_)
  | (with_reducible show HT _ _ _ _ _
     first
     | refine ht_not ?_ | refine ht_cmp ?_ | refine ht_chain ?_ | (refine ht_w ?_; first | refine hw_and ?_ | refine hw_or ?_))
  | (with_reducible show HW _ _ _ _ _
     first | refine hw_and1 ?_ | refine hw_or1 ?_ | refine hw_and ?_ | refine hw_or ?_)
  | (with_reducible show HA _ _ _ _ _
     first | refine ha_nil ?_ | refine ha_cons ?_)
  | (with_reducible show HO2 _ (cB _ .Add) _ _ _ _ _
     first | refine o_add ?_ | refine o_cat (by first | assumption | omega) ?_ | refine o_catO rfl rfl (by first | assumption | omega) ?_)
  | (with_reducible show HO2 _ (cB _ .Sub) _ _ _ _ _
     first | refine o_sub ?_)
  | (with_reducible show HO2 _ (cC _ .Eq) _ _ _ _ _
     first | refine o_eqI ?_ | refine o_eqS ?_ | refine o_eqB ?_)
  | (with_reducible show HO2 _ (cC _ .NotEq) _ _ _ _ _
     first | refine o_neI ?_ | refine o_neS ?_ | refine o_neB ?_)
  | (with_reducible show HO2 _ (cC _ .Lt) _ _ _ _ _
     first | refine o_lt ?_)
  | (with_reducible show HO2 _ (cC _ .LtE) _ _ _ _ _
     first | refine o_le ?_)
  | (with_reducible show HO2 _ (cC _ .Gt) _ _ _ _ _
     first | refine o_gt ?_)
  | (with_reducible show HO2 _ (cC _ .GtE) _ _ _ _ _
     first | refine o_ge ?_)
  | (with_reducible show HO2 _ (cC _ .Is) _ _ _ _ _
     first | refine o_isN ?_)
  | (with_reducible show HO2 _ (cC _ .IsNot) _ _ _ _ _
     first | refine o_notN ?_)
  | (with_reducible show HO2 _ (cC _ .In) _ _ _ _ _
     first | refine o_inS ?_)
  | (with_reducible show HO2 _ (cC _ .NotIn) _ _ _ _ _
     first | refine o_ninS ?_)
  | (with_reducible show HO2 _ (cX _) _ _ _ _ _
     first | refine o_ixL (by first | assumption | rfl) ?_ | refine o_ixT (by first | assumption | rfl) ?_)
  | (with_reducible show HF _ _ _ _ _ _
     first
     | refine hf_lenL ?_ | refine hf_lenT ?_ | refine hf_lenS ⟨by first | assumption | omega, ?_⟩ | refine hf_listL ?_ | refine hf_listT ?_ | refine hf_tupL ?_ | refine hf_tupT ?_ | refine hf_int ?_ | refine hf_intB ?_ | refine hf_strS ?_)
  | (with_reducible show HPo _ _ _ _ _
     first | refine hp_none ?_ | refine hp_some ?_)
  | (with_reducible show HSl _ _ _ _ _ _ _
     first | refine sl_L ?_ | refine sl_S (by first | assumption | omega) ?_)
  | (with_reducible show HGs _ _ _ _ _ _
     first | refine hgs_nil ?_ | refine hgs_cons ?_)
  | (with_reducible show HG _ _ _ _ _ _
     first | refine hg_name _ ⟨Nat.le_of_ble_eq_true rfl, by first | exact pinP _ _ _ | rfl, ?_⟩ | refine hg_tup rfl ?_)
  | (with_reducible show HEb _ _ _ _ _ _
     intro _ _ _ _ _)
  | (with_reducible show HTb _ _ _ _ _ _
     intro _ _ _ _ _)
  | (with_reducible show _ < _ ∧ _ = none ∧ _
     refine ⟨Nat.le_of_ble_eq_true rfl, by first | exact pinP _ _ _ | rfl, ?_⟩)
  | (with_reducible show _ ≤ 100000 ∧ _
     refine ⟨Nat.le_of_ble_eq_true rfl, ?_⟩)
  | (with_reducible show ite (true = true) _ _
     rw [if_pos rfl])
  | (with_reducible show ite (false = true) _ _
     rw [if_neg Bool.false_ne_true])
  | (with_reducible show ite ((!true) = true) _ _
     rw [Bool.not_true, if_neg Bool.false_ne_true])
  | (with_reducible show ite ((!false) = true) _ _
     rw [Bool.not_false, if_pos rfl]))
theorem sl_take (xs : List Str) (m : Nat) : OT.d (.ol ((cut (xs.map D.str) none (some (m : Int))).map .frz)) = lsD (xs.take m) := by rw [od_take, ← List.map_take]
theorem sl_drop (xs : List Str) (m : Nat) : OT.d (.ol ((cut (xs.map D.str) (some (m : Int)) none).map .frz)) = lsD (xs.drop m) := by rw [od_drop, ← List.map_drop]
theorem sl_drop1 (xs : List Str) (m : Nat) : OT.d (.ol ((cut (xs.map D.str) (some ((m : Int) + 1)) none).map .frz)) = lsD (xs.drop (m + 1)) := by
  rw [show (m : Int) + 1 = ((m + 1 : Nat) : Int) by omega]; exact sl_drop xs (m + 1)
theorem o_catS {S : Sit} {n : Nat} {Γ : Slots} {KK : Nat → Slots → OT → Prop} {x y : OT} {as bs : List Str} (hx : x.d = lsD as) (hy : y.d = lsD bs) (hz : as.length + bs.length ≤ 100000) (k : KK n Γ (strsO (as ++ bs))) : HO2 S (cB S.X .Add) n Γ x y KK := by
  refine o_catO (ds := as.map .str) (es := bs.map .str) hx hy (by rw [List.length_map, List.length_map]; exact hz) ?_
  rw [← List.map_append]
  exact k
section
variable {P : Program} {w : World} {K : PySem.W.Frag} {mg : Str → Option Value} {base : Heap} {T : List (Addr × Str)} {C CE CW : Addr} {E : Nat → Addr}
theorem sc_start : FnScope ["script"] ["script"] (defScope (top 36)) := ⟨rfl, rfl, rfl, by decide +kernel, rfl, by decide +kernel, by decide +kernel⟩
theorem ok_start {f : Addr} {fd : FuncData} (F : FunD K "_law_start" "_law_start" (defArgs (top 36)) (defBody (top 36)) (defScope (top 36)) [] [] f fd) (m2 : mg "list" = none) : FnOk P w K mg base (L2.CX P w) 1 f fd ["script"] (spStart K 43) := by
  refine F.ok sc_start (fun vs H Q E ⟨a, ns, e, _⟩ => by rw [e]; rfl) fun cdv A outer s H vs Q E hr ⟨a, ns, e, hs, hq⟩ => ?_
  subst e
  refine ⟨_, pss_one (ps_ret (pe_lst (pa_cons (pe_callTy call_list_of rfl m2 b_list (pa_cons (pv 0) pa_nil)) (pa_cons pe_int (pa_cons pe_int (pa_cons pe_int pa_nil)))))), ?_⟩
  refine ⟨.ref a, rfl, a, _, rfl, .inl hs, fun q hq0 => ?_⟩
  refine ⟨sz_of (by show (4 : Nat) ≤ 100000; decide), fun p hp => ?_⟩
  refine hq p q hq0 ?_ ?_
  · by_cases h : p = q
    · rw [h, upd_same] at hp; cases hp
    · rw [upd_ne h] at hp; exact hp
  · intro h
    rw [h, upd_same] at hp
    cases hp
/-- the defs that the law calls, kept -/
structure Uses (P : Program) (w : World) (K : PySem.W.Frag) (mg : Str → Option Value) (base : Heap) (T : List (Addr × Str)) (C CE CW : Addr) (E : Nat → Addr) (k : Nat) : Prop where
  krules : ∀ st cs, OkF P w K mg base ⟨K, st, cs, T⟩ k "_law_krules" ["stream"] (pureSp (sp_krules st))
  kmade : ∀ st cs, OkF P w K mg base ⟨K, st, cs, T⟩ k "_law_kmade" ["stream", "rules"] (pureSp (sp_kmade st C))
  kstill : ∀ st cs, OkF P w K mg base ⟨K, st, cs, T⟩ k "_law_kstill" ["stream", "rules", "most"] (pureSp (sp_kstill st))
  words : ∀ st cs, OkF P w K mg base ⟨K, st, cs, T⟩ k "_law_words" ["stream", "rules", "word"] (pureSp (sp_words st))
  below : ∀ st cs, OkF P w K mg base ⟨K, st, cs, T⟩ k "_law_below" ["stream", "many"] (pureSp (sp_below st))
  fault : ∀ st cs, OkF P w K mg base ⟨K, st, cs, T⟩ k "_law_fault" ["rules", "word", "thing"] (pureSp sp_fault)
  loose : ∀ st cs, OkF P w K mg base ⟨K, st, cs, T⟩ k "_law_loose" ["stream", "thing"] (pureSp (sp_loose st 3))
  copied : ∀ st cs, OkF P w K mg base ⟨K, st, cs, T⟩ k "_law_copied" ["thing"] (pureSp (sp_copied 3))
  walk : ∀ st cs, OkK P w K mg base ⟨K, st, cs, T⟩ k "walk_fault" (top 34) ["rules", "word", "thing"] (pureSp (sp_walk_fault C CE CW))
  same : ∀ st cs, OkF P w K mg base ⟨K, st, cs, T⟩ k "_law_same" ["found", "due"] (pureSp (sp_same 3))
  knothing : ∀ st cs, OkF P w K mg base ⟨K, st, cs, T⟩ k "_law_knothing" ["stream"] (pureSp (sp_knothing st))
  kno : ∀ st cs, OkF P w K mg base ⟨K, st, cs, T⟩ k "_law_kno_word" ["stream", "rules"] (pureSp (sp_kno_word st))
  refuses : ∀ st cs, OkL2 P w K mg base ⟨K, st, cs, T⟩ (k + 2) "_law_krefuses" "kind" "thing" "run" (top 56) Nrf (sp_krefuses E)
abbrev Nlaw : List Str := ["script", "stream", "turn", "rules", "word", "good", "at", "other", "some", "thing", "due", "handed", "was", "told", "bad", "made", "no"]
theorem sc_law : FnScope Nlaw ["script"] (defScope (top 60)) := ⟨rfl, rfl, rfl, by decide +kernel, rfl, by decide +kernel, by decide +kernel⟩
abbrev lawQ : Str := "law.<locals>.<lambda>"
theorem rulesO_d (ls : List Str) (rs : List Ru) : (rulesO C ls rs).d = ruleD C ls rs := by
  show D.obj C _ [lsD ls, OT.d (.ol ((rs.map ruD).map .frz))] = _
  rw [od_ol']
theorem ok_law {c Pt : Addr} {k : Nat} {f : Addr} {fd : FuncData} (F : FunD K "law" "law" (defArgs (top 60)) (defBody (top 60)) (defScope (top 60)) [] [] f fd) (hc : fd.code = .ref c) (TB : LamX.TabB base mg c Pt)
    (U : Uses P w K mg base [(Pt, lawQ)] C CE CW E k)
    {fS : Addr} {fdS : FuncData} (FS : FunD K "_law_start" "_law_start" (defArgs (top 36)) (defBody (top 36)) (defScope (top 36)) [] [] fS fdS) (gS : mg "_law_start" = some (.ref fS))
    (m2 : mg "list" = none) (m4 : mg "len" = none) (mr : mg "range" = none) (hE : CE = E 0 ∧ CW = E 3) :
    FnOk P w K mg base (L2.CX P w) (k + 4) f fd ["script"] (spLaw K [(Pt, lawQ)]) := by
  have nd := sc_law.nd
  refine fn_law F hc sc_law rfl 1000000 (by decide) (c0 := 43) (by decide) (by decide) (by decide) (fun A outer s H EX hr => ?_) fun A outer s H EX st cs W XP EE tk xo po hr hP => ?_
  · refine ⟨_, ps_set (i := 1) nd rfl (.inl rfl) (pe_callS (ok_start FS m2) (hr.mono (by omega)) rfl gS FS.kp (FS.bindsN fun _ _ _ _ _ _ us hl => match us, hl with | [_], _ => rfl) (fun σ => passAt (takes_of rfl rfl rfl rfl) σ) (pa_cons (pv 0) pa_nil))⟩
  have hk : Room k (bodyX P w K mg base Nlaw "law" (defScope (top 60)) f (.ref c) A outer s H EX).A := hr.mono (by omega)
  obtain ⟨eH, eB, eM, eP⟩ := EE
  have hP : eP = [] := hP
  subst hP
  have o1 := U.krules st cs
  have o2 := U.kmade st cs
  have o3 := U.kstill st cs
  have o4 := U.words st cs
  have o5 := U.below st cs
  have o6 := U.fault st cs
  have o7 := U.loose st cs
  have o8 := U.copied st cs
  have o9 := U.walk st cs
  have o9' := o9.ok fun _ _ _ _ _ _ us hl => match us, hl with | [_, _, _], _ => rfl
  have o10 := U.same st cs
  have o11 := U.knothing st cs
  have o12 := U.kno st cs
  refine hss_cons (hs_for (g := gName 2) (hi_range1 mr (ha_cons (he_int (ha_nil ⟨9, rfl, by decide, by decide, fun i n' Γ' => n' ≤ 1000000 ∧ 1000000 ≤ n' + 10000 * i ∧ ∃ a2 a3 a4 a5 a6 a7 a8 a9 a10 a11 a12 a13 a14 a15 a16, Γ' = [none, some (.frz (.opq (.ref st))), a2, a3, a4, a5, a6, a7, a8, a9, a10, a11, a12, a13, a14, a15, a16], ⟨by omega, by omega, none, none, none, none, none, none, none, none, none, none, none, none, none, none, none, rfl⟩, ?_, ?_⟩)))) (pg_name nd rfl (.inl rfl) (.inr rfl)))
  · rintro i n' Γ' dd hdd ⟨q1, q2, a2, a3, a4, a5, a6, a7, a8, a9, a10, a11, a12, a13, a14, a15, a16, rfl⟩
    have hi : i < 9 := by
      have := (List.getElem?_eq_some_iff.mp hdd).1
      simpa using this
    refine hg_name 2 ⟨by show (2 : Nat) < 17; decide, rfl, ?_⟩
    refine hss_fg [none, some (.frz (.opq (.ref st))), none, none, none, none, none, none, none, none, none, none, none, none, none, none, none] (by repeat (first | exact True.intro | refine ⟨.inr rfl, ?_⟩ | refine ⟨.inl rfl, ?_⟩)) ?_
    refine hss_cons (hs_set 3 (he_frz ?_) nd rfl (.inl rfl))
    repeat infer_instance
    refine ⟨rfl, by omega, fun n1 ls rs r p1 p2 hls hrs hr3 => ⟨by show (3 : Nat) < 17; decide, rfl, ?_⟩⟩
    rw [hr3]
    have hsm := hls.2.2.1
    have hl1 : 1 ≤ ls.length := hls.1
    have hl3 : ls.length ≤ 3 := hls.2.1
    have hr8 : rs.length ≤ 8 := hrs.1
    have hro := hrs.2.2
    refine hss_cons (hs_unp [15, 4] (he_frz (he_tup ?_)) (pgs_cons (pg_name nd rfl (.inr rfl) (by first | exact .inl rfl | exact .inr rfl)) (pgs_cons (pg_name nd rfl (.inl rfl) (.inr rfl)) pgs_nil)))
    repeat infer_instance
    refine ⟨ls, rs, rfl, hls, hrs, by omega, ?_⟩
    repeat infer_instance
    refine ⟨ls, rs, 12, rfl, hls, hrs, by decide, by omega, fun n2 x p3 p4 hx1 hx2 => ?_⟩
    repeat infer_instance
    refine ⟨[.frz (ruleD C ls rs), .frz (.str x)], .inr ⟨[ruleD C ls rs, .str x], ?_, rfl⟩, rfl, fun i hi => ⟨?_, rfl⟩, ?_⟩
    · show OT.frz (.tup [(rulesO C ls rs).d, .str x]) = _
      rw [rulesO_d]
    · have : i = 15 ∨ i = 4 := by simpa using hi
      show i < 17
      omega
    have hxt : txtOk x = true := hx1.ok (by omega)
    show HSs _ _ n2 [none, some (.frz (.opq (.ref st))), none, some (.frz (rowsD ls rs)), some (.frz (.str x)), none, none, none, none, none, none, none, none, none, none, some (.frz (ruleD C ls rs)), none] _
    refine hss_cons (hs_set 5 (he_frz ?_) nd rfl (.inl rfl))
    repeat infer_instance
    refine ⟨ls, rs, x, rfl, hr8, hro, hx1, by omega, by omega, fun n3 xs p5 p6 hw hxl => ⟨by show (5 : Nat) < 17; decide, rfl, ?_⟩⟩
    rw [show (strsO xs).d = lsD xs from strsO_d xs]
    have hxs0 : 1 ≤ xs.length := by
      have := (List.getElem?_eq_some_iff.mp hw.1).1
      omega
    refine hss_cons (hs_par 6 7 (ha_cons ?_) nd rfl rfl (by decide) rfl rfl)
    repeat infer_instance
    refine ⟨((xs.map D.str).length : Int), rfl, by rw [List.length_map]; omega, by rw [List.length_map]; omega, by omega, fun r r0 r1 => ?_⟩
    obtain ⟨m, rfl⟩ := Int.eq_ofNat_of_zero_le r0
    have hm : m < xs.length := by rw [List.length_map] at r1; omega
    repeat infer_instance
    refine ⟨ls, rs, 9, rfl, hls, hrs, by decide, by omega, fun n4 z p7 p8 hz1 hz2 => ?_⟩
    have hzt : txtOk z = true := hz1.ok (by omega)
    refine ha_nil ⟨_, _, rfl, by show (6 : Nat) < 17; decide, by show (7 : Nat) < 17; decide, ?_⟩
    show HSs _ _ n4 [none, some (.frz (.opq (.ref st))), none, some (.frz (rowsD ls rs)), some (.frz (.str x)), some (.frz (lsD xs)), some (.frz (.int (m : Int))), some (.frz (.str z)), none, none, none, none, none, none, none, some (.frz (ruleD C ls rs)), none] _
    have lt : ∀ n, (xs.take n).length ≤ 61 := fun n => by rw [List.length_take]; omega
    have ld : ∀ n, (xs.drop n).length ≤ 61 := fun n => by rw [List.length_drop]; omega
    have e8 : OT.d (.ol [.frz (lsD xs), strsO (xs.take m ++ xs.drop (m + 1)), strsO (xs.take m ++ [z] ++ xs.drop m), strsO xs.reverse, .ol [.frz (.str z)]]) = .lst [lsD xs, lsD (xs.take m ++ xs.drop (m + 1)), lsD (xs.take m ++ [z] ++ xs.drop m), lsD xs.reverse, lsD [z]] := by
      show D.lst [lsD xs, OT.d (strsO _), OT.d (strsO _), OT.d (strsO _), lsD [z]] = _
      rw [strsO_d, strsO_d, strsO_d]
    refine hss_cons (hs_post (fun n' Γ' => n' = n4 ∧ Γ' = [none, some (.frz (.opq (.ref st))), none, some (.frz (rowsD ls rs)), some (.frz (.str x)), some (.frz (lsD xs)), some (.frz (.int (m : Int))), some (.frz (.str z)), some (.frz (.lst [lsD xs, lsD (xs.take m ++ xs.drop (m + 1)), lsD (xs.take m ++ [z] ++ xs.drop m), lsD xs.reverse, lsD [z]])), none, none, none, none, none, none, some (.frz (ruleD C ls rs)), none]) (hs_set 8 (he_frz ?_) nd rfl (.inl rfl)) ?_)
    · refine he_list (ha_cons ?_)
      repeat infer_instance
      refine o_catS (sl_take xs m) (sl_drop1 xs m) (by have := lt m; have := ld (m + 1); omega) ?_
      refine ha_cons ?_
      repeat infer_instance
      refine o_catS (bs := [z]) (sl_take xs m) rfl (by have := lt m; show _ + 1 ≤ _; omega) ?_
      repeat infer_instance
      refine o_catS (strsO_d _) (sl_drop xs m) (by have := lt m; have := ld m; rw [List.length_append]; show _ + 1 + _ ≤ _; omega) ?_
      refine ha_cons (he_revL (he_v 5 rfl rfl ⟨xs.map .str, rfl, ?_⟩))
      rw [← List.map_reverse]
      repeat infer_instance
      refine ⟨rfl, ?_⟩
      rw [← e8]
      rfl
    rintro n' Γ' ⟨rfl, rfl⟩
    obtain ⟨xp, y, hxy⟩ : ∃ xp y, xs = xp ++ [y] := ⟨_, _, (List.dropLast_concat_getLast (List.length_pos_iff.mp hxs0)).symm⟩
    have aL : atI (xs.map D.str) (-1) = some (.str y) := by rw [hxy]; exact atI_lastS xp y
    have e8b : OT.d (.ol [strsO (xs ++ [y]), strsO (xs.take m ++ [z] ++ xs.drop (m + 1)), .ol [], .frz .non, .frz (.int 5), .frz (.str x), .frz (.dct [] []), .ol ((xs.map D.str ++ [D.non]).map .frz)]) = .lst [lsD (xs ++ [y]), lsD (xs.take m ++ [z] ++ xs.drop (m + 1)), .lst [], .non, .int 5, .str x, .dct [] [], .lst (xs.map D.str ++ [D.non])] := by
      show D.lst [OT.d (strsO _), OT.d (strsO _), .lst [], .non, .int 5, .str x, .dct [] [], OT.d (.ol ((xs.map D.str ++ [D.non]).map .frz))] = _
      rw [strsO_d, strsO_d, od_ol']
    refine hss_cons (hs_post (fun n2 Γ' => n2 = n' ∧ Γ' = [none, some (.frz (.opq (.ref st))), none, some (.frz (rowsD ls rs)), some (.frz (.str x)), some (.frz (lsD xs)), some (.frz (.int (m : Int))), some (.frz (.str z)), some (.frz (.lst ([lsD xs, lsD (xs.take m ++ xs.drop (m + 1)), lsD (xs.take m ++ [z] ++ xs.drop m), lsD xs.reverse, lsD [z]] ++ [lsD (xs ++ [y]), lsD (xs.take m ++ [z] ++ xs.drop (m + 1)), .lst [], .non, .int 5, .str x, .dct [] [], .lst (xs.map D.str ++ [D.non])]))), none, none, none, none, none, none, some (.frz (ruleD C ls rs)), none]) (hs_set 8 (he_frz ?_) nd rfl (.inl rfl)) ?_)
    · repeat infer_instance
      refine o_catS (bs := [y]) rfl rfl (by show _ + 1 ≤ _; omega) ?_
      refine ha_cons ?_
      repeat infer_instance
      refine o_catS (bs := [z]) (sl_take xs m) rfl (by have := lt m; show _ + 1 ≤ _; omega) ?_
      repeat infer_instance
      refine o_catS (strsO_d _) (sl_drop1 xs m) (by have := lt m; have := ld (m + 1); rw [List.length_append]; show _ + 1 + _ ≤ _; omega) ?_
      refine ha_cons ?_
      repeat infer_instance
      refine o_catO (ds := xs.map D.str) (es := [D.non]) rfl rfl (by rw [List.length_map]; show _ + 1 ≤ _; omega) ?_
      refine ha_nil ⟨by show (8 : Nat) ≤ 100000; decide, ?_⟩
      refine o_catO rfl e8b (by show (13 : Nat) ≤ 100000; decide) ?_
      refine ⟨by show (8 : Nat) < 17; decide, rfl, rfl, ?_⟩
      rw [od_ol']
      rfl
    rintro n2' Γ' ⟨rfl, rfl⟩
    refine hss_cons (hs_post (fun n2 Γ' => n2 = n2' ∧ Γ' = [none, some (.frz (.opq (.ref st))), none, some (.frz (rowsD ls rs)), some (.frz (.str x)), some (.frz (lsD xs)), some (.frz (.int (m : Int))), some (.frz (.str z)), some (.frz (.lst ([lsD xs, lsD (xs.take m ++ xs.drop (m + 1)), lsD (xs.take m ++ [z] ++ xs.drop m), lsD xs.reverse, lsD [z]] ++ [lsD (xs ++ [y]), lsD (xs.take m ++ [z] ++ xs.drop (m + 1)), .lst [], .non, .int 5, .str x, .dct [] [], .lst (xs.map D.str ++ [D.non])] ++ [lsD (xs ++ [("A" : Str)]), .lst [lsD xs]]))), none, none, none, none, none, none, some (.frz (ruleD C ls rs)), none]) (hs_set 8 (he_frz ?_) nd rfl (.inl rfl)) ?_)
    · repeat infer_instance
      refine o_catS (bs := [("A" : Str)]) rfl rfl (by show _ + 1 ≤ _; omega) ?_
      repeat infer_instance
      refine o_catO (es := [lsD (xs ++ [("A" : Str)]), .lst [lsD xs]]) rfl (by show D.lst [OT.d (strsO _), .lst [lsD xs]] = _; rw [strsO_d]) (by show (15 : Nat) ≤ 100000; decide) ?_
      refine ⟨by show (8 : Nat) < 17; decide, rfl, rfl, ?_⟩
      rw [od_ol']
      rfl
    rintro n2 Γ' ⟨rfl, rfl⟩
    obtain ⟨l0, lt', hcons⟩ : ∃ l0 lt', ls = l0 :: lt' := by
      match ls, hl1 with
      | a :: r, _ => exact ⟨a, r, rfl⟩
    have hl0 : isSm l0 := hsm l0 (by rw [hcons]; simp)
    have hl0l : l0.length = 1 := sm_len hl0
    have aL0 : atI (ls.map D.str) 0 = some (.str l0) := by rw [hcons]; exact atI_nat (j := 0) rfl
    have hyw : LayW ls y ∧ y.length ≤ 60 := hw.2.1 y (by rw [hxy]; simp)
    refine hss_cons (hs_post (fun n5 Γ' => n5 ≤ n2 ∧ n2 ≤ n5 + 130 ∧ ∃ ys : List Str, ys.length ≤ 61 ∧ (∀ s ∈ ys, txtOk s = true) ∧ Γ' = [none, some (.frz (.opq (.ref st))), none, some (.frz (rowsD ls rs)), some (.frz (.str x)), some (.frz (lsD xs)), some (.frz (.int (m : Int))), some (.frz (.str z)), some (.frz (.lst (thingsD l0 x z xs ys y m))), none, none, none, none, none, none, some (.frz (ruleD C ls rs)), none]) (hs_set 8 (he_frz ?_) nd rfl (.inl rfl)) ?_)
    · repeat infer_instance
      refine o_mulS (by decide) (by decide) (by omega) (by rw [hl0l]; decide) ?_
      repeat infer_instance
      refine o_catS (bs := [strRep l0 61]) rfl rfl (by show _ + 1 ≤ _; omega) ?_
      repeat infer_instance
      refine ⟨ls, rs, y, rfl, hr8, hro, hyw.1, hyw.2, by omega, fun n5 ys p9 p10 hwy hyl => ?_⟩
      show HPo _ _ _ _ _
      refine hp_some (he_int ⟨1, rfl, hp_none (hsl_fz ?_)⟩)
      rw [show (strsO ys).d = lsD ys from strsO_d ys]
      refine sl_L ?_
      refine o_catS rfl (sl_drop ys 1) (by rw [List.length_drop]; omega) ?_
      refine ha_nil ⟨by show (2 : Nat) ≤ 100000; decide, ?_⟩
      refine o_catO (es := [lsD (xs ++ [strRep l0 61]), lsD (xs ++ ys.drop 1)]) rfl (by show D.lst [OT.d (strsO _), OT.d (strsO _)] = _; rw [strsO_d, strsO_d]) (by show (17 : Nat) ≤ 100000; decide) ?_
      refine ⟨by show (8 : Nat) < 17; decide, rfl, p10, by omega, ys, hyl, fun s hs => ((hwy.2.1 s hs).1).ok (by have := (hwy.2.1 s hs).2; omega), ?_⟩
      rw [od_ol']
      rfl
    rintro n5 Γ' ⟨p9, p10, ys, hyl, hyt, rfl⟩
    have hxst : ∀ s ∈ xs, txtOk s = true := fun s hs => ((hw.2.1 s hs).1).ok (by have := (hw.2.1 s hs).2; omega)
    have hth := things_ok (i := m) hl0 hxt hzt (hyw.1.ok (by omega)) hxst hyt hxl hyl
    have hthl : (thingsD l0 x z xs ys y m).length = 17 := rfl
    generalize thingsD l0 x z xs ys y m = things at hth hthl
    refine hss_cons (hs_for (g := gName 9) (hi_list ?_) (pg_name nd rfl (.inl rfl) (.inr rfl)))
    repeat infer_instance
    refine ⟨fun i2 n6 Γ6 => n6 ≤ n5 ∧ n5 ≤ n6 + 301 * i2 ∧ ∃ a9 a10 a11 a12 a13, Γ6 = [none, some (.frz (.opq (.ref st))), none, some (.frz (rowsD ls rs)), some (.frz (.str x)), some (.frz (lsD xs)), some (.frz (.int (m : Int))), some (.frz (.str z)), some (.frz (.lst (things))), a9, a10, a11, a12, a13, none, some (.frz (ruleD C ls rs)), none], ⟨Nat.le_refl _, by omega, _, _, _, _, _, rfl⟩, ?_, ?_⟩
    · rintro i2 n6 Γ6 t hti ⟨g1, g2, a9, a10, a11, a12, a13, rfl⟩
      have ht := hth t (List.mem_of_getElem? hti)
      have hi2 : i2 < 17 := by
        have := (List.getElem?_eq_some_iff.mp hti).1
        omega
      have hcost := ht.cost
      refine hg_name 9 ⟨by show (9 : Nat) < 17; decide, rfl, ?_⟩
      refine hss_fg [none, some (.frz (.opq (.ref st))), none, some (.frz (rowsD ls rs)), some (.frz (.str x)), some (.frz (lsD xs)), some (.frz (.int (m : Int))), some (.frz (.str z)), some (.frz (.lst (things))), some (.frz t), none, none, none, none, none, some (.frz (ruleD C ls rs)), none] (by repeat (first | exact True.intro | refine ⟨.inr rfl, ?_⟩ | refine ⟨.inl rfl, ?_⟩)) ?_
      refine hss_cons (hs_par 10 11 (ha_cons ?_) nd rfl rfl (by decide) rfl rfl)
      repeat infer_instance
      refine ⟨ls, rs, x, t, rfl, hr8, hro, ht.th2, ?_⟩
      repeat infer_instance
      refine ⟨t, rfl, ht.okL, by omega, fun r hrl => ?_⟩
      have hrt := ht.loose hrl
      refine ha_nil ⟨_, _, rfl, by show (10 : Nat) < 17; decide, by show (11 : Nat) < 17; decide, ?_⟩
      repeat infer_instance
      refine ⟨r, rfl, hrt.okL, ?_⟩
      repeat infer_instance
      have hask : askOk (.str x) := ask_str hxt
      have hof : isOf ls (.str x) 60 = true := isOf_true (by omega) hx1.of
      have hwf : wfault ls rs x r = wfault ls rs x t := wfault_loose hrl
      refine he_v 15 rfl rfl ?_
      repeat infer_instance
      refine ⟨ruleD C ls rs, .str x, r, rfl, .inr ⟨ls, rs, rfl, hr8, hro, hask, .inr ⟨hof, x, rfl, hrt.th2.1, ?_⟩⟩⟩
      rw [hwf]
      refine ha_cons (he_callKW ["thing", "word", "rules"] [2, 1, 0] o9 hk (hk_cons (he_v 11 rfl rfl (hk_cons (he_v 4 rfl rfl (hk_cons (he_v 15 rfl rfl (hk_nil ⟨rfl, rfl, ?_⟩))))))) (fun _ _ _ _ _ _ ws hl => match ws, hl with | [_, _, _], _ => rfl) (by simp))
      refine ⟨ruleD C ls rs, .str x, r, rfl, .inr ⟨ls, rs, rfl, hr8, hro, hask, .inr ⟨hof, x, rfl, hrt.th2.1, ?_⟩⟩⟩
      rw [hwf]
      repeat infer_instance
      refine he_take 13 rfl (.inl rfl) rfl ?_
      repeat infer_instance
      refine ⟨.lst [wfault ls rs x t, wfault ls rs x t], rfl, okS_told ls rs x t, _, rfl, ?_⟩
      repeat infer_instance
      refine ⟨r, rfl, hrt.okS, _, rfl, ?_⟩
      repeat infer_instance
      exact ⟨by omega, by omega, _, _, _, _, _, rfl⟩
    rintro n6 Γ6 ⟨g1, g2, a9, a10, a11, a12, a13, rfl⟩
    repeat infer_instance
    have hgood : okT (lsD xs) := okT_strs (by omega) hxst
    refine ⟨ls, rs, x, lsD xs, rfl, hr8, hro, hgood.th2, ?_⟩
    rw [hw.fault]
    repeat infer_instance
    refine iteF rfl ?_
    repeat infer_instance
    refine hs_unp [16, 14] (he_frz (he_tup ?_)) (pgs_cons (pg_name nd rfl (.inr rfl) (by first | exact .inl rfl | exact .inr rfl)) (pgs_cons (pg_name nd rfl (.inr rfl) (by first | exact .inl rfl | exact .inr rfl)) pgs_nil))
    repeat infer_instance
    refine ⟨rfl, by omega, fun no hno => ?_⟩
    repeat infer_instance
    refine ⟨l0, lt', rs, by rw [← hcons]; rfl, hl0l, by omega, fun bad hbad => ?_⟩
    obtain ⟨b1, b2, b3⟩ := kno_ok hsm hl0 hbad
    obtain ⟨c1, c2⟩ := noth_ok hno
    repeat infer_instance
    refine ⟨[.frz no, .frz bad], .inr ⟨[no, bad], rfl, rfl⟩, rfl, fun i hi => ⟨?_, rfl⟩, ?_⟩
    · have : i = 16 ∨ i = 14 := by simpa using hi
      show i < 17
      omega
    refine hss_fg [none, some (.frz (.opq (.ref st))), none, none, none, none, none, none, none, none, none, none, none, none, some (.frz bad), some (.frz (ruleD C ls rs)), some (.frz no)] (by repeat (first | exact True.intro | refine ⟨.inr rfl, ?_⟩ | refine ⟨.inl rfl, ?_⟩)) ?_
    have Lm : (Pt, (Sit.mk (bodyX P w K mg base Nlaw "law" (defScope (top 60)) f (.ref c) A outer s H EX) st cs [(Pt, lawQ)] ⟨eH, eB, eM, []⟩ W XP tk xo po).X.env.qual ++ "<lambda>") ∈ [(Pt, lawQ)] := by
      refine List.mem_singleton.mpr ?_
      rfl
    refine hss_cons (hs_if (ht_not (ht_bl ?_)))
    refine he_lam2 (U.refuses st cs) TB rfl Lm (fun p hp _ => by rw [List.mem_singleton.mp hp]; rfl) hr (LamX.lamS_by (by show LamX.lamSB (defScope (top 60)) _ = true; decide +kernel)) ?_
    refine he_str (he_v 16 rfl rfl ⟨.str "rules", no, fun _ _ => False, fun n' C' ns ds => n' = n6 - 1 - 1 ∧ C' = E 0 ∧ ns = [("thing" : Str)] ∧ ds = [no], rfl, rfl, ?_, fun _ _ h => h, 0, by decide, rfl, c2, ?_⟩)
    · intro A' outer' s' H0 E' f' c' El tk' xo' po' hr' hP'
      repeat infer_instance
      refine he_v 16 rfl rfl ?_
      repeat infer_instance
      exact ⟨no, .non, .non, rfl, .inl ⟨c1, rfl, hE.1, rfl, rfl⟩⟩
    rintro n' C' ns ds ⟨rfl, rfl, rfl, rfl⟩
    refine ⟨rfl, rfl, rfl, _, rfl, ?_⟩
    refine iteF rfl ?_
    refine hss_nil ?_
    refine hss_one (hs_if (ht_not (ht_bl ?_)))
    refine he_lam2 (U.refuses st cs) TB rfl Lm (fun p hp _ => by rw [List.mem_singleton.mp hp]; rfl) hr (LamX.lamS_by (by show LamX.lamSB (defScope (top 60)) _ = true; decide +kernel)) ?_
    refine he_str (he_v 14 rfl rfl ⟨.str "word", bad, fun _ _ => False, fun n' C' ns ds => n' = n6 - 1 - 1 ∧ C' = E 3 ∧ ns = [("thing" : Str)] ∧ ds = [bad], rfl, rfl, ?_, fun _ _ h => h, 3, by decide, rfl, b3, ?_⟩)
    · intro A' outer' s' H0 E' f' c' El tk' xo' po' hr' hP'
      repeat infer_instance
      refine he_v 15 rfl rfl ?_
      repeat infer_instance
      exact ⟨ruleD C ls rs, bad, .non, rfl, .inr ⟨ls, rs, rfl, hr8, hro, b1, .inl ⟨b2, rfl, hE.2, rfl, rfl⟩⟩⟩
    rintro n' C' ns ds ⟨rfl, rfl, rfl, rfl⟩
    refine ⟨rfl, rfl, rfl, _, rfl, ?_⟩
    refine iteF rfl ?_
    refine hss_nil ?_
    exact ⟨by omega, by omega, _, _, _, _, _, _, _, _, _, _, _, _, _, _, _, rfl⟩
  · rintro n' Γ' ⟨q1, q2, a2, a3, a4, a5, a6, a7, a8, a9, a10, a11, a12, a13, a14, a15, a16, rfl⟩
    repeat infer_instance
    rfl
end
end K03

set_option Elab.async false
set_option linter.all false
set_option maxRecDepth 100000
set_option maxHeartbeats 4000000
namespace K03
open PySem PySem.Spec PyProof.Rows L2 DL
def errN : Nat → Str
  | 0 => "BadRules"
  | 1 => "BadLetters"
  | 2 => "BadPairs"
  | 3 => "BadWord"
  | 4 => "BadOther"
  | 5 => "BadFar"
  | 6 => "BadStep"
  | 7 => "BadRow"
  | 8 => "BadTrees"
  | 9 => "BadMany"
  | 10 => "BadLength"
  | 11 => "BadMachine"
  | _ => "TooMany"
theorem errN_mem : ∀ i, i < 13 → errN i ∈ errNs := by decide +kernel
theorem errN_inj : ∀ i, i < 13 → ∀ j, j < 13 → decide (errN i = errN j) = decide (i = j) := by decide +kernel
section
variable {P : Program} {w : World} {K : PySem.W.Frag} {h : Heap} {mg : Str → Option Value} {base : Heap} (c : He.SaysD fa fn K) (X : K.In h) (G : h.Ns mainGlobals mg) (e : ex K = true)
include c X G e
theorem errs : ErrM K mg (fun i => He.ga K (errN i)) where
  g0 := G_BadRules c X G
  g1 := G_BadLetters c X G
  g2 := G_BadPairs c X G
  g3 := G_BadWord c X G
  g4 := G_BadOther c X G
  g5 := G_BadFar c X G
  g6 := G_BadStep c X G
  g7 := G_BadRow c X G
  g8 := G_BadTrees c X G
  g9 := G_BadMany c X G
  g10 := G_BadLength c X G
  g11 := G_BadMachine c X G
  g12 := G_TooMany c X G
  ex := fun i j hi hj => by
    rw [exmB_ok (exm_ok e) (errN_mem i hi) (errN_mem j hj), errN_inj i hi j hj]
  xf := fun i hi => by
    obtain rfl | rfl | rfl | rfl | rfl | rfl | rfl | rfl | rfl | rfl | rfl | rfl | rfl := (by omega : i = 0 ∨ i = 1 ∨ i = 2 ∨ i = 3 ∨ i = 4 ∨ i = 5 ∨ i = 6 ∨ i = 7 ∨ i = 8 ∨ i = 9 ∨ i = 10 ∨ i = 11 ∨ i = 12)
    · exact (e_BadRules e).xf
    · exact (e_BadLetters e).xf
    · exact (e_BadPairs e).xf
    · exact (e_BadWord e).xf
    · exact (e_BadOther e).xf
    · exact (e_BadFar e).xf
    · exact (e_BadStep e).xf
    · exact (e_BadRow e).xf
    · exact (e_BadTrees e).xf
    · exact (e_BadMany e).xf
    · exact (e_BadLength e).xf
    · exact (e_BadMachine e).xf
    · exact (e_TooMany e).xf
  no := fun i hi => by
    obtain rfl | rfl | rfl | rfl | rfl | rfl | rfl | rfl | rfl | rfl | rfl | rfl | rfl := (by omega : i = 0 ∨ i = 1 ∨ i = 2 ∨ i = 3 ∨ i = 4 ∨ i = 5 ∨ i = 6 ∨ i = 7 ∨ i = 8 ∨ i = 9 ∨ i = 10 ∨ i = 11 ∨ i = 12)
    · exact (e_BadRules e).no
    · exact (e_BadLetters e).no
    · exact (e_BadPairs e).no
    · exact (e_BadWord e).no
    · exact (e_BadOther e).no
    · exact (e_BadFar e).no
    · exact (e_BadStep e).no
    · exact (e_BadRow e).no
    · exact (e_BadTrees e).no
    · exact (e_BadMany e).no
    · exact (e_BadLength e).no
    · exact (e_BadMachine e).no
    · exact (e_TooMany e).no
theorem uses (T : List (Addr × Str)) : Uses P w K mg base T (He.ga K "Rules") (He.ga K "BadRules") (He.ga K "BadWord") (fun i => He.ga K (errN i)) 7 := by
  have m_len := g_len c X G
  have m_isi := g_isinstance c X G
  have m_list := g_list c X G
  have m_tuple := g_tuple c X G
  have m_dict := g_dict c X G
  have m_int := g_int c X G
  have m_str := g_str c X G
  have m_sorted := g_sorted c X G
  have m_range := g_range c X G
  have m_zip := g_zip c X G
  have m_all := g_all c X G
  have m_enum := g_enumerate c X G
  have m_bool := g_bool c X G
  obtain ⟨tL, gLong⟩ := i_LONGEST c X G
  obtain ⟨tM, gMost⟩ := i_MOST c X G
  obtain ⟨tS, gSmall⟩ := s_SMALL c X G
  have cR := c_Rules c
  have rc : RulesC K (He.ga K "Rules") := ⟨cR, a_Rules_alphabet c, a_Rules_held c⟩
  have xR : OkX P w K mg base "BadRules" (He.ga K "BadRules") "thing" := X_BadRules c X G e
  have xW : OkX P w K mg base "BadWord" (He.ga K "BadWord") "thing" := X_BadWord c X G e
  have below := fun st cs => ok_below (P := P) (w := w) (base := base) (st := st) (cs := cs) (T := T) 0 (D__law_below c X G) m_int
  have chance := fun st cs => ok_chance 1 (D__law_chance c X G) (below st cs)
  have pick := fun st cs => ok_pick 1 (D__law_pick c X G) (below st cs) m_len
  have mixed := fun st cs => ok_mixed 1 (D__law_mixed c X G) (below st cs) m_len m_list m_range
  have same := fun st cs => ok_same (P := P) (w := w) (base := base) (st := st) (cs := cs) (T := T) 0 (D__law_same c X G) m_isi m_list m_tuple m_len m_all m_zip m_dict m_int m_bool m_str 3
  have loose := fun st cs => ok_loose 2 (D__law_loose c X G) ((below st cs).mono (by decide)) (mixed st cs) m_isi m_list m_tuple m_dict
  have copied := fun st cs => ok_copied (P := P) (w := w) (base := base) (st := st) (cs := cs) (T := T) (D__law_copied c X G) m_isi m_list m_tuple m_dict
  have is_row := fun st cs => ok_is_row (P := P) (w := w) (base := base) (st := st) (cs := cs) (T := T) 0 (D_is_row c X G) m_isi m_list m_tuple
  have is_number := fun st cs => ok_is_number (P := P) (w := w) (base := base) (st := st) (cs := cs) (T := T) 0 (D_is_number c X G) m_isi m_int m_bool
  have is_letter := fun st cs => ok_is_letter (P := P) (w := w) (base := base) (st := st) (cs := cs) (T := T) 0 (D_is_letter c X G) m_isi m_len m_str tS gSmall
  have letters_in := fun st cs => ok_letters_in 1 (D_letters_in c X G) (is_row st cs) (is_letter st cs) m_len m_sorted
  have is_of := fun st cs => ok_is_of (P := P) (w := w) (base := base) (st := st) (cs := cs) (T := T) 0 (D_is_of c X G) m_isi m_len m_str
  have rule_in := fun st cs => ok_rule_in 1 (D_rule_in c X G) (is_row st cs) (is_of st cs) m_tuple m_len
  have pairs_in := fun st cs => ok_pairs_in 2 (D_pairs_in c X G) ((is_row st cs).mono (by decide)) (rule_in st cs) m_enum tM gMost
  have init := fun st cs => ok_init 3 (DI_Rules c X G) rc ((letters_in st cs).mono (by decide)) (pairs_in st cs)
  have need_rules := fun st cs => ok_need_rules (st := st) (cs := cs) (T := T) 0 (D_need_rules c X G) (own_Rules e cR) (G_Rules c X G) m_isi xR
  have is_word := fun st cs => ok_is_word 1 (D_is_word c X G) rc (is_of st cs) tL gLong
  have need_word := fun st cs => ok_need_word 0 (D_need_word c X G) (is_word st cs) xW
  have steps_of := fun st cs => ok_steps_of (P := P) (w := w) (base := base) (st := st) (cs := cs) (T := T) 1 (D_steps_of c X G) rc m_enum m_range m_len
  have step_in := fun st cs => ok_step_in 1 (D_step_in c X G) rc (is_row st cs) (is_number st cs) m_len
  have next_words := fun st cs => ok_next_words 2 (D_next_words c X G) (steps_of st cs) (step_in st cs) m_list
  have walk := fun st cs => ok_walk_fault 3 (D_walk_fault c X G) (need_rules st cs) (need_word st cs) ((is_row st cs).mono (by decide)) ((is_word st cs).mono (by decide)) (next_words st cs) m_range m_len
  have kletters := fun st cs => ok_kletters 2 (D__law_kletters c X G) (pick st cs) (mixed st cs) m_sorted
  have kpair := fun st cs => ok_kpair 2 (D__law_kpair c X G) (pick st cs) m_range
  have krules := fun st cs => ok_krules 3 (D__law_krules c X G) (kletters st cs) ((pick st cs).mono (by decide)) (kpair st cs) ((chance st cs).mono (by decide)) m_range m_len
  have kmade := fun st cs => ok_kmade 4 (D__law_kmade c X G) ((mixed st cs).mono (by decide)) (loose st cs 2) (init st cs)
  have kword := fun st cs => ok_kword 2 (D__law_kword c X G) (pick st cs) ((below st cs).mono (by decide)) (chance st cs) m_range
  have kgrown := fun st cs => ok_kgrown 2 (D__law_kgrown c X G) (pick st cs) m_range m_len
  have kstill := fun st cs => ok_kstill 3 (D__law_kstill c X G) (kword st cs) ((chance st cs).mono (by decide)) (kgrown st cs)
  have ksteps := fun st cs => ok_ksteps (P := P) (w := w) (base := base) (st := st) (cs := cs) (T := T) 0 (D__law_ksteps c X G) m_enum m_range m_len
  have kdone := fun st cs => ok_kdone 1 (D__law_kdone c X G) (ksteps st cs) m_isi m_list m_tuple m_len m_bool m_int
  have kis_word := fun st cs => ok_kis_word (P := P) (w := w) (base := base) (st := st) (cs := cs) (T := T) 0 (D__law_kis_word c X G) m_isi m_len m_str
  have fault := fun st cs => ok_fault 2 (D__law_fault c X G) ((ksteps st cs).mono (by decide)) (kdone st cs) ((kis_word st cs).mono (by decide)) m_isi m_list m_tuple m_len m_range
  have words := fun st cs => ok_words 2 (D__law_words c X G) ((ksteps st cs).mono (by decide)) (kdone st cs) (chance st cs) (pick st cs)
  have knothing := fun st cs => ok_knothing 3 (D__law_knothing c X G) ((pick st cs).mono (by decide)) (copied st cs 2)
  have kno := fun st cs => ok_kno_word 3 (D__law_kno_word c X G) ((pick st cs).mono (by decide)) (copied st cs 2)
  have refuses := fun st cs => ok_krefuses (P := P) (w := w) (base := base) (st := st) (cs := cs) (T := T) 8 (D__law_krefuses c X G) (ok_kraised (D__law_kraised c X G) (errs c X G e)) ((same st cs).mono (by decide))
  exact ⟨fun st cs => (krules st cs).mono (by decide), fun st cs => (kmade st cs).mono (by decide), fun st cs => (kstill st cs).mono (by decide), fun st cs => (words st cs).mono (by decide), fun st cs => (below st cs).mono (by decide), fun st cs => (fault st cs).mono (by decide), fun st cs => (loose st cs 3).mono (by decide), fun st cs => (copied st cs 3).mono (by decide), fun st cs => (walk st cs).mono (by decide), fun st cs => (same st cs).mono (by decide), fun st cs => (knothing st cs).mono (by decide), fun st cs => (kno st cs).mono (by decide), refuses⟩
/-- the law's def keeps its promise -/
theorem law_at {w : World} {fa0 : Addr} (hmg : mg "law" = some (.ref fa0)) (hd : PySem.W.codeHdIn K (He.cT K ("law", none)).1 (He.cT K ("law", none)).2 = true) (hout : K.lookup (He.cT K ("law", none)).2 = none) (hem : h.get? (He.cT K ("law", none)).2 = some { cls := .none, data := .fields #[] }) :
    LamX.LawAtS PySem.Challenge.rw_ruledwords_k03_walks_judged w K (L2.CX PySem.Challenge.pw_ruledwords_k03_walks_judged w) 11 63 "script" mg fa0 h := by
  obtain ⟨fd, F⟩ := c.defs (d := d_law) (List.mem_of_getElem? (i := 38) rfl)
  obtain ⟨fdS, FS⟩ := c.defs (d := d__law_start) (List.mem_of_getElem? (i := 14) rfl)
  obtain ⟨f1, fd1, e1, F1⟩ := D_law c X G
  have eg : mg "law" = some (.ref (He.ga K "law")) := He.glo_ok X G (c.facts (List.mem_of_getElem? (i := 38) rfl))
  have egS : mg "_law_start" = some (.ref (He.ga K "_law_start")) := He.glo_ok X G (c.facts (List.mem_of_getElem? (i := 14) rfl))
  have ef := hmg.symm.trans eg
  cases ef
  obtain ⟨c0, hc0⟩ : ∃ c0, fd.code = .ref c0 := by
    obtain ⟨oc, od, dV, kV, doc, pm, an, cdv, ct, osl, rfl, lk, hcd, _, _⟩ := F.ex
    exact He.codeIn_ref hcd
  have hcode : (He.cT K ("law", none)).1 = c0 := by
    obtain ⟨oc, od, dV, kV, doc, pm, an, cdv, ct, osl, e2, lk, hcd, _, _⟩ := F.ex
    exact He.codeOf_eq lk hc0
  have b := FunD.bindsA (ps := ["script"]) F fun _ _ _ _ _ _ us hl => match us, hl with | [_], _ => rfl
  refine ⟨fd, [He.cT K ("law", none)], fun vs H Q _ => (∃ (a : Addr) (ns : List Int), vs = [.ref a] ∧ ns.length ≤ 63 ∧ SqL K H a (ns.map V.int) ∧ H (He.cT K ("law", none)).2 = some (.tbl #[])) ∧ ∀ v H', v = .bl true → Q v H', ?_, ?_, ?_, fun s u => b s [u] rfl, ?_, ?_⟩
  · intro p hp
    rw [List.mem_singleton.mp hp]; exact hem
  · intro p hp
    rw [List.mem_singleton.mp hp]; exact hout
  · intro p hp
    rw [List.mem_singleton.mp hp]; exact PySem.W.codeHd_of_K X hd
  · intro H a ns hl _ ht hs
    exact ⟨⟨a, ns, rfl, hl, hs, ht _ (List.mem_singleton.mpr rfl)⟩, fun v _ e => e⟩
  · intro base X2 G2 TB
    have TB1 := TB _ (List.mem_singleton.mpr rfl)
    rw [hcode] at TB1
    have L := ok_law (P := PySem.Challenge.pw_ruledwords_k03_walks_judged) (w := w) (base := base) (mg := mg) F hc0 TB1 (uses (P := PySem.Challenge.pw_ruledwords_k03_walks_judged) (w := w) (base := base) c X G e _) FS egS (g_list c X G) (g_len c X G) (g_range c X G) ⟨rfl, rfl⟩
    refine fn_trim [(He.cT K ("law", none)).2] L (fun outer H s e s' ⟨a, B, H', cls, d, _, _, _, _, _, _, _, z⟩ => z) (fun vs H ⟨a, ns, e, _⟩ => by rw [e]; rfl) fun vs H ⟨a, ns, e, hl, hs, ht⟩ => ?_
    refine ⟨a, ns, e, hl, trim_sqL hs, fun p hp => ?_, fun b ps hb => ?_, fun v _ z => z⟩
    · rw [List.mem_singleton.mp hp]
      exact (trim_in (by simp)).trans ht
    · exact trim_all hb
end
end K03
open PySem PySem.W PySem.Calls PyProof.Rows
theorem PySem.Challenge.cw_ruledwords_k03_walks_judged_holds : PySem.Challenge.rw_ruledwords_k03_walks_judged.Holds := by
  w_on; o_law
  refine HandSHeadRun.head_any (r := OpenLaw.row PySem.Challenge.rw_ruledwords_k03_walks_judged) (q := view (OpenLaw.row PySem.Challenge.rw_ruledwords_k03_walks_judged).prog [60]) (H := K03.hk) (ob := K03.ob) (M := 20000) (loose := K03.loose) (d := HandSHeadRun.topDef (OpenLaw.row PySem.Challenge.rw_ruledwords_k03_walks_judged).prog 60) (kwd := []) K03.ob_eq
    (by kernel_rfl) (fun s => by kernel_rfl) K03.run (by kernel_rfl) (by kernel_rfl) (by kernel_rfl) (by rfl) (by first | assumption | decide +kernel) (by decide +kernel) ⟨rfl, rfl, rfl, rfl, rfl, by decide +kernel⟩ ?hw ?hc
  case hw => w_witness2
  case hc =>
    refine LamX.walk_ofTsE (l := PySem.Challenge.rw_ruledwords_k03_walks_judged) (n := 63) (k := 11) (x := "script") (CX := fun w => L2.CX PySem.Challenge.pw_ruledwords_k03_walks_judged w) rfl (by decide) (by kernel_rfl) ⟨rfl, by decide, by decide⟩ ?F ?hCX
    case hCX =>
      rintro w H s e s' ⟨a, B, H', cls, d, _, _, _, _, _, _, _, h⟩
      exact h
    intro w mg fa h Y G hmg0
    obtain ⟨K, KX, c⟩ := Y
    have hmg : mg ("law" : PySem.Str) = some (.ref fa) := by
      have e : (HandSHeadRun.topDef (OpenLaw.row PySem.Challenge.rw_ruledwords_k03_walks_judged).prog 60).name = ("law" : PySem.Str) := by kernel_rfl
      rw [← e]
      exact hmg0
    exact ⟨K, KX, K03.law_at c.t.d KX G c.more hmg (c.hd _ (List.mem_singleton.mpr rfl)) (c.out _ (List.mem_singleton.mpr rfl)) (c.empty _ (List.mem_singleton.mpr rfl))⟩
