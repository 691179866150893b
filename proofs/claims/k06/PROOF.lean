import PyProof.Rows.All
import HandS.Head2
import PySem.Challenge.RW_huedties_k06_sides_shown
import Wide.All
import OpenK.AllK
import Wide.FinOn
import HandS.ForMost
import HandS.Walk
import HandS.Wide
import HandS.Style
import HandS.TupAny
import HandS.IsInst
import HandS.SortInts
import HandS.Deep
import HandS.Conv
import KE.KTupSum
import KE.GoesEnum
import KE.GoesMore
import HandS.ExcOwn
import HandS.SetFor
import HandS.Small
import HandS.TupLen
import HandS.SortRule
import HandS.Strs
import HandS.Words
import HandS.EndBits
import KE.DataMinMax
import KE.DataEq
import KE.DataFind
import HandS.SortKw
import HandS.Zip
import HandS.More
import HandS.SetKeys
import PyProof.ReprRoads
import HandS.RaiseMore
import HandS.Exc
import PyProof.StrOps2
import HandS.NoneIn
import KE.SortData
import HandS.TryOnly
import HandS.ExcIs
import KE.KExcIs
import PyProof.AutoSeq1
import KE.KDictWalk
import HandS.TupMul
import KE.KDictPairs
import KE.KTryMore
import PyProof.DictUpdate
import KE.DataMinKey
import HandS.ExcInit
import HandS.ExcField
import PyProof.CallFns
import PyProof.StrLawsRepr
set_option Elab.async false
set_option linter.all false
set_option maxRecDepth 100000
set_option maxHeartbeats 0
namespace HuHead
open PyProof.Rows PySem.W PySem.Calls PySem HandSHeadRun
abbrev Rw:OpenRow:=PySem.W.OpenLaw.row PySem.Challenge.rw_huedties_k06_sides_shown
def viewQ:PySem.Program:=PySem.W.view Rw.prog [27]
def looseQ:List PySem.Str:=(["is_number","ties_by_place","SIDES","RING","Going","two_sides","are_sides","is_ring","goes_round","shows_sides","_law_tape","_law_draw","_law_pairs_by","_law_web","_law_drawn","_law_sides","_law_goes_round","_law_is_ring","_law_ring_of","_law_whole","_law_due","_law_odd","_law_bent","_law_says"]:List PySem.Str)
noncomputable abbrev ran {α:Type} (w:World) (os:OsState) (f:SharedT→α):Option α:=(endF (stepQ (denQ tabQ) Rw.prog w) 20000 Rw.prog w os).map f
theorem run1 (w:World) (os:OsState):ran w os (fun s => looksF Rw.prog (boot_heap w.params) s.abs) = some true:=by kernel_rfl
theorem run2 (w:World) (os:OsState):ran w os (fun s => seenQ viewQ looseQ (importedModules Rw.prog.main.body) (fun s => xlAt viewQ [] s&&recOk Rw.toRowW.records s) s.abs) = some (openGood viewQ looseQ):=by kernel_rfl
theorem map3 {σ α β γ:Type} {o:Option σ} {f:σ→α} {g:σ→β} {k:σ→γ} {a:α} {b:β} {c:γ} (h1:o.map f = some a) (h2:o.map g = some b) (h3:o.map k = some c):o.map (fun s => (f s,g s,k s)) = some (a,b,c):=by
 cases o with
 | none => cases h1
 | some s =>
  cases h1
  cases h2
  cases h3
  rfl
def obT (as:List Addr) (s:SharedT):List (Option Obj):=as.map (getT s)
theorem obT_eq {K:Params→Frag} {as:List Addr} {e:∀ P,as = (K P).map (·.1)} (s:SharedT):obT as s = (kHook K as e).obs s.abs:=by
 show as.map _ = as.map _
 exact List.map_congr_left fun a _ => getT_eq s a
theorem runs {K:Params→Frag} {as:List Addr} {e:∀ P,as = (K P).map (·.1)} (h:∀ w os,ran w os (obT as) = some ((kHook K as e).val w)) (w:World):RunEq Rw viewQ (kHook K as e) (obT as) 20000 looseQ w:=fun os => map3 (run1 w os) (run2 w os) (h w os)
end HuHead
namespace Hu
open PySem L2
abbrev D:=PyData
structure Par where
 K:PySem.W.Frag
 cls:Str→Addr
inductive T where
 | d (x:D)
 | scr (ns:List Int)
 | lst (ts:List T)
 | tup (ts:List T)
 | dK (kvs:List (Key × T))
 | dT (kvs:List (List Key × T))
 | ins (c:Str) (fs:List (Str × T))
 deriving Inhabited
abbrev Rho:=List (Option T)
def isT:HO→Bool
 | .tup _ => true
 | _ => false
def kD:Key→D
 | .inl i => .int i
 | .inr x => .str x
def ExK (c:Value) (d:Option Addr) (a:Addr):HO:=.ext fun h => ∃ (oe:Obj) (vs:Array Value),h.get? a = some oe∧(oe.cls = c∧oe.dict = d)∧oe.data = .fields vs
mutual
inductive Fz (K:Par) (F:Hp):V→D→Prop
 | non:Fz K F .non .none
 | bl (b:Bool):Fz K F (.bl b) (.bool b)
 | int (i:Int):Fz K F (.int i) (.int i)
 | str (x:Str):Fz K F (.str x) (.str x)
 | lst {a:Addr} {xs:List V} {ds:List D}:F a = some (.lst xs)→FzA K F xs ds→Fz K F (.ref a) (.list ds)
 | tup {a:Addr} {xs:List V} {ds:List D}:F a = some (.tup xs)→FzA K F xs ds→Fz K F (.ref a) (.tuple ds)
 | dic {a:Addr} {kvs:List (Key × V)} {ds:List (D × D)}:F a = some (.dK kvs)→ds.map Prod.fst = kvs.map (fun p => kD p.1)→FzA K F (kvs.map Prod.snd) (ds.map Prod.snd)→Fz K F (.ref a) (.dict ds)
 | exc {a:Addr} {c:Str}:F a = some (ExK (.ref (K.cls c)) none a)→Fz K F (.ref a) (.dict [(.none,.str c)])
 | exf {a dd:Addr} {c n:Str} {v:V} {x:D}:F a = some (ExK (.ref (K.cls c)) (some dd) a)→F dd = some (.xd [(n,v)])→Fz K F v x→Fz K F (.ref a) (.dict [(.none,.str c),(.str n,x)])
inductive FzA (K:Par) (F:Hp):List V→List D→Prop
 | nil:FzA K F [] []
 | cons {v:V} {vs:List V} {x:D} {xs:List D}:Fz K F v x→FzA K F vs xs→FzA K F (v :: vs) (x :: xs)
end
mutual
theorem Fz.mono {K:Par} {F F':Hp} {v:V} {x:D} (e:Same F F'):Fz K F v x→Fz K F' v x
 | .non => .non
 | .bl b => .bl b
 | .int i => .int i
 | .str z => .str z
 | .lst h1 h2 => .lst (e _ _ h1) (FzA.mono e h2)
 | .tup h1 h2 => .tup (e _ _ h1) (FzA.mono e h2)
 | .dic h1 h2 h3 => .dic (e _ _ h1) h2 (FzA.mono e h3)
 | .exc h1 => .exc (e _ _ h1)
 | .exf h1 h2 h3 => .exf (e _ _ h1) (e _ _ h2) (Fz.mono e h3)
theorem FzA.mono {K:Par} {F F':Hp} {vs:List V} {xs:List D} (e:Same F F'):FzA K F vs xs→FzA K F' vs xs
 | .nil => .nil
 | .cons h1 h2 => .cons (Fz.mono e h1) (FzA.mono e h2)
end
mutual
def imm:D→Bool
 | .list _ => false
 | .dict _ => false
 | .tuple xs => immA xs
 | .none => true
 | .bool _ => true
 | .int _ => true
 | .str _ => true
def immA:List D→Bool
 | [] => true
 | x :: xs => imm x&&immA xs
end
def TupSub (F F':Hp):Prop:=∀ a xs,F a = some (.tup xs)→F' a = some (.tup xs)
mutual
theorem Fz.immMono {K:Par} {F F':Hp} {v:V} {x:D} (e:TupSub F F'):Fz K F v x→imm x = true→Fz K F' v x
 | .non,_ => .non
 | .bl b,_ => .bl b
 | .int i,_ => .int i
 | .str z,_ => .str z
 | .tup h1 h2,q => .tup (e _ _ h1) (FzA.immMono e h2 (by simpa [imm] using q))
theorem FzA.immMono {K:Par} {F F':Hp} {vs:List V} {xs:List D} (e:TupSub F F'):FzA K F vs xs→immA xs = true→FzA K F' vs xs
 | .nil,_ => .nil
 | .cons h1 h2,q => by
  simp only [immA,Bool.and_eq_true] at q
  exact .cons (Fz.immMono e h1 q.1) (FzA.immMono e h2 q.2)
end
mutual
def noDict:D→Bool
 | .list xs => noDictA xs
 | .dict _ => false
 | .tuple xs => noDictA xs
 | .none => true
 | .bool _ => true
 | .int _ => true
 | .str _ => true
def noDictA:List D→Bool
 | [] => true
 | x :: xs => noDict x&&noDictA xs
end
theorem sqT_any {K:PySem.W.Frag} {H:Hp} {a:Addr} {xs:List V} (h:SqT K (fun _ => none) a xs):SqT K H a xs:=by
 rcases h with (h | ⟨o,h⟩) | h
 ·cases h
 ·cases h
 ·exact .inr h
mutual
theorem Fz.dp {K:Par} {F H:Hp} {v:V} {x:D} (e:Same F H):Fz K F v x→noDict x = true→Dp K.K H v x
 | .non,_ => .non
 | .bl b,_ => .bl b
 | .int i,_ => .int i
 | .str z,_ => .str z
 | .lst h1 h2,q => .lst (SqL.of (e _ _ h1)) (FzA.dp e h2 (by simpa [noDict] using q))
 | .tup h1 h2,q => .tup (SqT.of (e _ _ h1)) (FzA.dp e h2 (by simpa [noDict] using q))
theorem FzA.dp {K:Par} {F H:Hp} {vs:List V} {xs:List D} (e:Same F H):FzA K F vs xs→noDictA xs = true→DpAll K.K H vs xs
 | .nil,_ => .nil
 | .cons h1 h2,q => by
  simp only [noDictA,Bool.and_eq_true] at q
  exact .cons (Fz.dp e h1 q.1) (FzA.dp e h2 q.2)
end
theorem FzA.length {K:Par} {F:Hp}:∀ {vs:List V} {xs:List D},FzA K F vs xs→vs.length = xs.length
 | _,_,.nil => rfl
 | _,_,.cons _ h => by simp [FzA.length h]
theorem FzA.get {K:Par} {F:Hp}:∀ {vs:List V} {xs:List D} {i:Nat} {x:D},FzA K F vs xs→xs[i]? = some x→∃ v,vs[i]? = some v∧Fz K F v x
 | _,_,_,_,.nil,h => by simp at h
 | _,_,0,_,.cons h1 _,h => by simp at h; subst h; exact ⟨_,by simp,h1⟩
 | _,_,i + 1,_,.cons _ h2,h => by
  obtain ⟨v,e,q⟩:=FzA.get (i:=i) h2 (by simpa using h)
  exact ⟨v,by simpa using e,q⟩
theorem FzA.append {K:Par} {F:Hp}:∀ {vs ws:List V} {xs ys:List D},FzA K F vs xs→FzA K F ws ys→FzA K F (vs++ws) (xs++ys)
 | _,_,_,_,.nil,h => h
 | _,_,_,_,.cons h1 h2,h => .cons h1 (FzA.append h2 h)
theorem FzA.take {K:Par} {F:Hp}:∀ {vs:List V} {xs:List D} (n:Nat),FzA K F vs xs→FzA K F (vs.take n) (xs.take n)
 | _,_,0,_ => by simpa using FzA.nil
 | _,_,_ + 1,.nil => by simpa using FzA.nil
 | _,_,n + 1,.cons h1 h2 => by simpa using FzA.cons h1 (FzA.take n h2)
theorem FzA.drop {K:Par} {F:Hp}:∀ {vs:List V} {xs:List D} (n:Nat),FzA K F vs xs→FzA K F (vs.drop n) (xs.drop n)
 | _,_,0,h => by simpa using h
 | _,_,_ + 1,.nil => by simpa using FzA.nil
 | _,_,n + 1,.cons _ h2 => by simpa using FzA.drop n h2
theorem sqL_on {K:PySem.W.Frag} {F H:Hp} {a:Addr} {xs:List V} (e:Same F H) (h:SqL K F a xs):SqL K H a xs:=by
 rcases h with h | h
 ·rcases h with h | ⟨o,h⟩
  ·exact .inl (.inl (e _ _ h))
  ·exact .inl (.inr ⟨o,e _ _ h⟩)
 ·exact .inr h
mutual
inductive R (K:Par) (F H:Hp):V→T→List Addr→Prop
 | d {v:V} {x:D}:Fz K F v x→R K F H v (.d x) []
 | scr {a:Addr} {ns:List Int}:SqL K.K F a (ns.map V.int)→R K F H (.ref a) (.scr ns) []
 | lst {a:Addr} {vs:List V} {ts:List T} {A:List Addr}:H a = some (.lst vs)→RA K F H vs ts A→a∉A→R K F H (.ref a) (.lst ts) (a :: A)
 | tup {a:Addr} {vs:List V} {ts:List T} {A:List Addr}:H a = some (.tup vs)→RA K F H vs ts A→R K F H (.ref a) (.tup ts) A
 | dK {a:Addr} {es:List (Key × V)} {kvs:List (Key × T)} {A:List Addr}:H a = some (.dK es)→es.map Prod.fst = kvs.map Prod.fst→RA K F H (es.map Prod.snd) (kvs.map Prod.snd) A→a∉A→R K F H (.ref a) (.dK kvs) (a :: A)
 | dT {a:Addr} {es:List (List Key × V)} {kvs:List (List Key × T)} {A:List Addr}:H a = some (.dT es)→es.map Prod.fst = kvs.map Prod.fst→RA K F H (es.map Prod.snd) (kvs.map Prod.snd) A→a∉A→R K F H (.ref a) (.dT kvs) (a :: A)
 | ins {a dx:Addr} {c:Str} {es:List (Str × V)} {fs:List (Str × T)} {A:List Addr}:H a = some (.ins (K.cls c) dx es)→H dx = some (.own a)→es.map Prod.fst = fs.map Prod.fst→RA K F H (es.map Prod.snd) (fs.map Prod.snd) A→a∉A→dx∉A →
   R K F H (.ref a) (.ins c fs) (a :: dx :: A)
inductive RA (K:Par) (F H:Hp):List V→List T→List Addr→Prop
 | nil:RA K F H [] [] []
 | cons {v:V} {vs:List V} {t:T} {ts:List T} {A B:List Addr}:R K F H v t A→RA K F H vs ts B→(∀ a,a∈A→a∉B)→RA K F H (v :: vs) (t :: ts) (A++B)
end
theorem R.fz {K:Par} {F H:Hp} {v:V} {x:D} {A:List Addr} (r:R K F H v (.d x) A):Fz K F v x:=by cases r with | d h => exact h
def Live (H:Hp) (A:List Addr):Prop:=∀ a,a∈A→∃ o,H a = some o∧isT o = false
mutual
theorem R.live {K:Par} {F H:Hp} {v:V} {t:T} {A:List Addr}:R K F H v t A→Live H A
 | .d _ => fun a h => by cases h
 | .scr _ => fun a h => by cases h
 | .lst h1 h2 _ => fun a h => by
  (rcases List.mem_cons.mp h with rfl | h)
  ·exact ⟨_,h1,rfl⟩
  ·exact RA.live h2 a h
 | .tup h1 h2 => RA.live h2
 | .dK h1 _ h2 _ => fun a h => by
  (rcases List.mem_cons.mp h with rfl | h)
  ·exact ⟨_,h1,rfl⟩
  ·exact RA.live h2 a h
 | .dT h1 _ h2 _ => fun a h => by
  (rcases List.mem_cons.mp h with rfl | h)
  ·exact ⟨_,h1,rfl⟩
  ·exact RA.live h2 a h
 | .ins h1 h0 _ h2 _ _ => fun a h => by
  (rcases List.mem_cons.mp h with rfl | h)
  ·exact ⟨_,h1,rfl⟩
  ·rcases List.mem_cons.mp h with rfl | h
   ·exact ⟨_,h0,rfl⟩
   ·exact RA.live h2 a h
theorem RA.live {K:Par} {F H:Hp} {vs:List V} {ts:List T} {A:List Addr}:RA K F H vs ts A→Live H A
 | .nil => fun a h => by cases h
 | .cons h1 h2 _ => fun a h => by
  (rcases List.mem_append.mp h with h | h)
  ·exact R.live h1 a h
  ·exact RA.live h2 a h
end
mutual
theorem R.frame {K:Par} {F F' H H':Hp} {v:V} {t:T} {A:List Addr} (e:Same F F') (s:TupSub H H'):R K F H v t A→(∀ a,a∈A→H' a = H a)→R K F' H' v t A
 | .d h,_ => .d (h.mono e)
 | .scr h,_ => .scr (sqL_on e h)
 | .lst h1 h2 n,q => .lst ((q _ List.mem_cons_self).trans h1) (RA.frame e s h2 fun a h => q a (List.mem_cons_of_mem _ h)) n
 | .tup h1 h2,q => .tup (s _ _ h1) (RA.frame e s h2 q)
 | .dK h1 h0 h2 n,q => .dK ((q _ List.mem_cons_self).trans h1) h0 (RA.frame e s h2 fun a h => q a (List.mem_cons_of_mem _ h)) n
 | .dT h1 h0 h2 n,q => .dT ((q _ List.mem_cons_self).trans h1) h0 (RA.frame e s h2 fun a h => q a (List.mem_cons_of_mem _ h)) n
 | .ins h1 h3 h0 h2 n m,q => .ins ((q _ List.mem_cons_self).trans h1) ((q _ (List.mem_cons_of_mem _ List.mem_cons_self)).trans h3) h0 (RA.frame e s h2 fun a h => q a (List.mem_cons_of_mem _ (List.mem_cons_of_mem _ h))) n m
theorem RA.frame {K:Par} {F F' H H':Hp} {vs:List V} {ts:List T} {A:List Addr} (e:Same F F') (s:TupSub H H'):RA K F H vs ts A→(∀ a,a∈A→H' a = H a)→RA K F' H' vs ts A
 | .nil,_ => .nil
 | .cons h1 h2 n,q => .cons (R.frame e s h1 fun a h => q a (List.mem_append_left _ h)) (RA.frame e s h2 fun a h => q a (List.mem_append_right _ h)) n
end
theorem RA.length {K:Par} {F H:Hp}:∀ {vs:List V} {ts:List T} {A:List Addr},RA K F H vs ts A→vs.length = ts.length
 | _,_,_,.nil => rfl
 | _,_,_,.cons _ h _ => by simp [RA.length h]
structure Sim (K:Par) (F H:Hp) (σ:St) (ρ:Rho) (fp:Nat→List Addr):Prop where
 len:σ.length = ρ.length
 sl:∀ (i:Nat) t,ρ[i]? = some (some t)→∃ v,σ[i]? = some (some v)∧R K F H v t (fp i)
 dj:∀ (i j:Nat),i≠j→∀ a,a∈fp i→a∉fp j
 ff:∀ (i:Nat) a,a∈fp i→F a = none
 mt:∀ (i:Nat),Live H (fp i)
 sub:Same F H
structure Ext (F H:Hp) (fp:Nat→List Addr) (F' H':Hp) (fp':Nat→List Addr) (A:List Addr):Prop where
 keep:∀ a o,H a = some o→(∀ i,a∉fp i)→H' a = some o
 fsub:Same F F'
 fnew:∀ a o,F' a = some o→F a = some o∨H a = none∨isT o = true∨∃ i,a∈fp i
 own:∀ a,(a∈A∨∃ i,a∈fp' i)→(∃ i,a∈fp i)∨H a = none
theorem Ext.refl (F H:Hp) (fp:Nat→List Addr):Ext F H fp F H fp [] :=
 ⟨fun _ _ h _ => h,Same.refl F,fun _ _ h => .inl h,fun a h => by
  rcases h with h | h
  ·cases h
  ·exact .inl h⟩
theorem Ext.trans {F H F1 H1 F2 H2:Hp} {fp fp1 fp2:Nat→List Addr} {A B:List Addr} (x:Ext F H fp F1 H1 fp1 A) (y:Ext F1 H1 fp1 F2 H2 fp2 B):Ext F H fp F2 H2 fp2 B:=by
 have back:∀ a,H1 a = none→(∃ i,a∈fp i)∨H a = none:=fun a h => by
  cases q:H a with
  | none => exact .inr rfl
  | some o =>
   by_cases c:∃ i,a∈fp i
   ·exact .inl c
   ·have:=x.keep a o q fun i z => c ⟨i,z⟩
    rw [h] at this; cases this
 refine ⟨fun a o h n => y.keep a o (x.keep a o h n) fun i z => ?_,x.fsub.trans y.fsub,fun a o h => ?_,fun a h => ?_⟩
 ·rcases x.own a (.inr ⟨i,z⟩) with ⟨j,q⟩ | q
  ·exact n j q
  ·rw [h] at q; cases q
 ·rcases y.fnew a o h with q | q | q | ⟨i,q⟩
  ·exact x.fnew a o q
  ·rcases back a q with z | z
   ·exact .inr (.inr (.inr z))
   ·exact .inr (.inl z)
  ·exact .inr (.inr (.inl q))
  ·rcases x.own a (.inr ⟨i,q⟩) with z | z
   ·exact .inr (.inr (.inr z))
   ·exact .inr (.inl z)
 ·rcases y.own a h with ⟨i,q⟩ | q
  ·exact x.own a (.inr ⟨i,q⟩)
  ·exact back a q
theorem Ext.more {F H F' H':Hp} {fp fp':Nat→List Addr} {A B:List Addr} (x:Ext F H fp F' H' fp' A) (h:∀ a,a∈B→a∈A∨(∃ i,a∈fp i)∨H a = none):Ext F H fp F' H' fp' B :=
 ⟨x.keep,x.fsub,x.fnew,fun a q => by
  rcases q with q | q
  ·rcases h a q with z | z
   ·exact x.own a (.inl z)
   ·exact z
  ·exact x.own a (.inr q)⟩
theorem Ext.nil {F H F' H':Hp} {fp fp':Nat→List Addr} {A:List Addr} (x:Ext F H fp F' H' fp' A):Ext F H fp F' H' fp' []:=x.more fun a q => by simp at q
structure Tmp (K:Par) (F H:Hp) (fp:Nat→List Addr) (v:V) (t:T) (A:List Addr):Prop where
 r:R K F H v t A
 dj:∀ a,a∈A→∀ i,a∉fp i
 ff:∀ a,a∈A→F a = none
theorem Sim.tups {K:Par} {F H F' H':Hp} {σ:St} {ρ:Rho} {fp fp':Nat→List Addr} {A:List Addr} (s:Sim K F H σ ρ fp) (x:Ext F H fp F' H' fp' A):TupSub H H':=fun a xs h =>
 x.keep a _ h fun i z => by
  obtain ⟨o,e,q⟩:=s.mt i a z
  rw [h] at e; cases e; cases q
theorem Tmp.on {K:Par} {F H F' H':Hp} {σ σ':St} {ρ ρ':Rho} {fp fp':Nat→List Addr} {A B:List Addr} {v:V} {t:T} (m:Tmp K F H fp v t B) (s:Sim K F H σ ρ fp) (x:Ext F H fp F' H' fp' A) (s':Sim K F' H' σ' ρ' fp') :
  Tmp K F' H' fp' v t B∧∀ a,a∈B→a∉A:=by
 have st:∀ a,a∈B→H' a = H a:=fun a h => by
  obtain ⟨o,e,_⟩:=m.r.live a h
  rw [e]; exact x.keep a o e (m.dj a h)
 have no:∀ a,a∈B→¬ (a∈A∨∃ i,a∈fp' i):=fun a h q => by
  rcases x.own a q with ⟨i,z⟩ | z
  ·exact m.dj a h i z
  ·obtain ⟨o,e,_⟩:=m.r.live a h
   rw [e] at z; cases z
 refine ⟨⟨m.r.frame x.fsub (s.tups x) st,fun a h i z => no a h (.inr ⟨i,z⟩),fun a h => ?_⟩,fun a h z => no a h (.inl z)⟩
 cases q:F' a with
 | none => rfl
 | some o =>
  obtain ⟨u,e,nt⟩:=m.r.live a h
  rcases x.fnew a o q with z | z | z | ⟨i,z⟩
  ·rw [m.ff a h] at z; cases z
  ·rw [e] at z; cases z
  ·have:=s'.sub a o q
   rw [st a h,e] at this
   cases this
   rw [nt] at z; cases z
  ·exact absurd z (m.dj a h i)
theorem Tmp.frz {K:Par} {F H:Hp} {fp:Nat→List Addr} {v:V} {x:D} (h:Fz K F v x):Tmp K F H fp v (.d x) []:=⟨.d h,fun _ q => absurd q (by simp),fun _ q => absurd q (by simp)⟩
inductive Out (α:Type) where
 | ok (a:α) (ρ:Rho)
 | ex (c:Str) (f:Option (Str × T)) (ρ:Rho)
 | bad
 deriving Inhabited
def Out.bind {α β:Type} (o:Out α) (f:α→Rho→Out β):Out β:=match o with
 | .ok a ρ => f a ρ
 | .ex c u ρ => .ex c u ρ
 | .bad => .bad
abbrev G (α:Type):=Rho→Out α
def Post (K:Par) (F H:Hp) (σ:St) (fp:Nat→List Addr) (Q:VK) (t:T) (ρ':Rho):Prop :=
 ∀ v F' H' fp' A,Sim K F' H' σ ρ' fp'→Tmp K F' H' fp' v t A→Ext F H fp F' H' fp' A→Q v H'
def PostP (K:Par) (F H:Hp) (σ:St) (fp:Nat→List Addr) (Q:VK) (t:T) (ρ':Rho):Prop :=
 ∀ v F' H' fp' A,Sim K F' H' σ ρ' fp'→R K F' H' v t A→Ext F H fp F' H' fp' []→Q v H'
def XDict (K:Par) (F H:Hp) (fp:Nat→List Addr) (d:Option Addr) (f:Option (Str × T)) (A:List Addr):Prop :=
 match f with
 | none => d = none∧A = []
 | some (x,t) => ∃ dd v B,d = some dd∧H dd = some (.xd [(x,v)])∧Tmp K F H fp v t B∧A = dd :: B∧dd∉B∧(∀ i,dd∉fp i)∧F dd = none
abbrev XW:=St→XK
def PostX (K:Par) (W:XW) (F H:Hp) (σ:St) (fp:Nat→List Addr) (c:Str) (f:Option (Str × T)) (ρ':Rho):Prop :=
 ∀ d F' H' fp' A,Sim K F' H' σ ρ' fp'→XDict K F' H' fp' d f A→Ext F H fp F' H' fp' A→W σ (.ref (K.cls c)) d H'
def OutR {α:Type} (K:Par) (W:XW) (F H:Hp) (σ:St) (fp:Nat→List Addr) (P:α→Rho→Prop):Out α→Prop
 | .ok t ρ' => P t ρ'
 | .ex c f ρ' => PostX K W F H σ fp c f ρ'
 | .bad => False
abbrev OutG (K:Par) (W:XW) (F H:Hp) (σ:St) (fp:Nat→List Addr) (Q:VK):Out T→Prop:=OutR K W F H σ fp (Post K F H σ fp Q)
abbrev OutP (K:Par) (W:XW) (F H:Hp) (σ:St) (fp:Nat→List Addr) (Q:VK):Out T→Prop:=OutR K W F H σ fp (PostP K F H σ fp Q)
def tG (K:Par) (W:XW) (g:G T):TE:=fun σ H Q => ∃ ρ F fp,Sim K F H σ ρ fp∧OutG K W F H σ fp Q (g ρ)
def tP (K:Par) (W:XW) (g:G T):TE:=fun σ H Q => ∃ ρ F fp,Sim K F H σ ρ fp∧OutP K W F H σ fp Q (g ρ)
section
variable {K:Par} {W:XW} {F H F1 H1:Hp} {σ:St} {fp fp1:Nat→List Addr} {Q:VK} {A:List Addr} {α β:Type}
theorem PostX.shift {c:Str} {f:Option (Str × T)} {ρ':Rho} (h:PostX K W F H σ fp c f ρ') (x:Ext F H fp F1 H1 fp1 A):PostX K W F1 H1 σ fp1 c f ρ' :=
 fun d F' H' fp' B s m y => h d F' H' fp' B s m (x.trans y)
theorem OutR.bind {P:β→Rho→Prop} {o:Out α} {f:α→Rho→Out β} (h:OutR K W F H σ fp P (o.bind f)):OutR K W F H σ fp (fun a ρ => OutR K W F H σ fp P (f a ρ)) o:=by
 cases o with
 | ok a ρ => exact h
 | ex c u ρ => exact h
 | bad => exact h
theorem OutR.imp {P P':α→Rho→Prop} {o:Out α} (h:OutR K W F H σ fp P o) (x:Ext F H fp F1 H1 fp1 A) (i:∀ a ρ,o = .ok a ρ→P a ρ→P' a ρ):OutR K W F1 H1 σ fp1 P' o:=by
 cases o with
 | ok a ρ => exact i a ρ rfl h
 | ex c u ρ => exact PostX.shift h x
 | bad => exact h
end
theorem _root_.L2.PE.imp {X:Cx} {e:Expr} {t t':TE} (h:PE X e t) (i:∀ σ H Q,t' σ H Q→t σ H Q):PE X e t':=⟨fun pins s σ H Q I q => h.run pins s σ H Q I (i σ H Q q)⟩
theorem _root_.L2.PT.imp {X:Cx} {e:Expr} {t t':TT} (h:PT X e t) (i:∀ σ H Q,t' σ H Q→t σ H Q):PT X e t':=⟨fun pins s σ H Q I q => h.run pins s σ H Q I (i σ H Q q)⟩
theorem _root_.L2.PA.imp {X:Cx} {es:List Expr} {t t':TA} (h:PA X es t) (i:∀ σ H Q,t' σ H Q→t σ H Q):PA X es t':=⟨fun pos pins s σ H Q I q => h.run pos pins s σ H Q I (i σ H Q q)⟩
theorem _root_.L2.PS.imp {X:Cx} {st:Stmt} {t t':TS} (h:PS X st t) (i:∀ D σ H,t' D σ H→t D σ H):PS X st t':=⟨fun pins s σ H D I q => h.run pins s σ H D I (i D σ H q)⟩
theorem _root_.L2.PSs.imp {X:Cx} {st:List Stmt} {t t':TS} (h:PSs X st t) (i:∀ D σ H,t' D σ H→t D σ H):PSs X st t':=⟨fun pins s σ H D I q => h.run pins s σ H D I (i D σ H q)⟩
end Hu
namespace Hu
open PySem L2
inductive Opd where
 | nm (i:Nat)
 | con (v:V) (x:D)
 | val (g:G T)
 | pk (g:G T)
 | iv (g:G T)
def getS (ρ:Rho) (i:Nat):Option T:=(ρ[i]?).join
def Opd.run:Opd→Rho→Out (Option T)
 | .nm i,ρ => match getS ρ i with
  | some _ => .ok none ρ
  | none => .bad
 | .con _ x,ρ => .ok (some (.d x)) ρ
 | .val g,ρ => (g ρ).bind fun t ρ' => .ok (some t) ρ'
 | .pk g,ρ => (g ρ).bind fun t ρ' => .ok (some t) ρ'
 | .iv g,ρ => (g ρ).bind fun t ρ' => match t with
  | .d (.int i) => .ok (some (.d (.int i))) ρ'
  | _ => .bad
def Opd.still:Opd→Bool
 | .nm _ => true
 | .con _ _ => true
 | _ => false
def isD:Option T→Bool
 | some (.d _) => true
 | _ => false
def Opd.safe:Opd→Option T→List Opd→Bool
 | .pk _,x,os => isD x||os.all Opd.still
 | _,_,_ => true
def runs:List Opd→Rho→Out (List (Option T))
 | [],ρ => .ok [] ρ
 | o :: os,ρ => (o.run ρ).bind fun x ρ1 => if o.safe x os = true then (runs os ρ1).bind fun xs ρ2 => .ok (x :: xs) ρ2 else .bad
def fins:List Opd→List (Option T)→Rho→Option (List T)
 | .nm i :: os,_ :: xs,ρ => match getS ρ i,fins os xs ρ with
  | some t,some ts => some (t :: ts)
  | _,_ => none
 | _ :: os,some t :: xs,ρ => match fins os xs ρ with
  | some ts => some (t :: ts)
  | none => none
 | _,_,_ => some []
def gOs {α:Type} (os:List Opd) (k:List T→G α):G α:=fun ρ => (runs os ρ).bind fun xs ρ' => match fins os xs ρ' with
 | some ts => k ts ρ'
 | none => .bad
def tO (K:Par) (W:XW):Opd→TE
 | .nm i => tVar i
 | .con v _ => tC v
 | .val g => tG K W g
 | .pk g => tP K W g
 | .iv g => fun σ H Q => tG K W g σ H fun x H1 => ∃ i,x = .int i∧Q x H1
def tOs (K:Par) (W:XW):List Opd→TA
 | [] => tNil
 | o :: os => tCons (tO K W o) (tOs K W os)
inductive ArgsR (K:Par) (F H:Hp) (σ:St) (fp:Nat→List Addr):List Opd→List V→List (Option T)→List Addr→Prop
 | nil:ArgsR K F H σ fp [] [] [] []
 | nm {i os v vs xs B}:σ[i]? = some (some v)→ArgsR K F H σ fp os vs xs B→ArgsR K F H σ fp (.nm i :: os) (v :: vs) (none :: xs) B
 | con {v x os vs xs B}:Fz K F v x→ArgsR K F H σ fp os vs xs B→ArgsR K F H σ fp (.con v x :: os) (v :: vs) (some (.d x) :: xs) B
 | val {g t A os v vs xs B}:Tmp K F H fp v t A→(∀ a,a∈A→a∉B)→ArgsR K F H σ fp os vs xs B→ArgsR K F H σ fp (.val g :: os) (v :: vs) (some t :: xs) (A++B)
 | pk {g t A os v vs xs B}:R K F H v t A→ArgsR K F H σ fp os vs xs B→ArgsR K F H σ fp (.pk g :: os) (v :: vs) (some t :: xs) B
 | iv {g i os vs xs B}:ArgsR K F H σ fp os vs xs B→ArgsR K F H σ fp (.iv g :: os) (.int i :: vs) (some (.d (.int i)) :: xs) B
def conOk:V→D→Bool
 | .non,.none => true
 | .bl a,.bool b => a == b
 | .int i,.int j => i == j
 | .str x,.str y => decide (x = y)
 | _,_ => false
theorem conOk.fz {K:Par} {F:Hp}:∀ {v:V} {x:D},conOk v x = true→Fz K F v x
 | .non,.none,_ => .non
 | .bl a,.bool b,h => by
  have:a = b:=by simpa [conOk] using h
  subst this; exact .bl a
 | .int i,.int j,h => by
  have:i = j:=by simpa [conOk] using h
  subst this; exact .int i
 | .str x,.str y,h => by
  have:x = y:=by simpa [conOk] using h
  subst this; exact .str x
def Opd.fine:Opd→Bool
 | .con v x => conOk v x
 | _ => true
theorem getS_some {ρ:Rho} {i:Nat} {t:T} (h:getS ρ i = some t):ρ[i]? = some (some t):=by
 unfold getS at h
 cases q:ρ[i]? with
 | none => rw [q] at h; simp at h
 | some u => rw [q] at h; simp at h; rw [h]
theorem runs_nm {i:Nat} {os:List Opd} {ρ:Rho} {t:T} (h:getS ρ i = some t):runs (.nm i :: os) ρ = (runs os ρ).bind fun xs ρ2 => .ok (none :: xs) ρ2:=by
 simp [runs,Opd.run,h,Out.bind,Opd.safe]
theorem runs_nm0 {i:Nat} {os:List Opd} {ρ:Rho} (h:getS ρ i = none):runs (.nm i :: os) ρ = .bad:=by
 simp [runs,Opd.run,h,Out.bind]
theorem runs_con {v:V} {x:D} {os:List Opd} {ρ:Rho}:runs (.con v x :: os) ρ = (runs os ρ).bind fun xs ρ2 => .ok (some (.d x) :: xs) ρ2:=by
 simp [runs,Opd.run,Out.bind,Opd.safe]
theorem runs_val {g:G T} {os:List Opd} {ρ:Rho}:runs (.val g :: os) ρ = (g ρ).bind fun t ρ1 => (runs os ρ1).bind fun xs ρ2 => .ok (some t :: xs) ρ2:=by
 simp only [runs,Opd.run,Opd.safe,if_true]
 cases g ρ <;> rfl
theorem runs_pk {g:G T} {os:List Opd} {ρ:Rho}:runs (.pk g :: os) ρ = (g ρ).bind fun t ρ1 => if Opd.safe (.pk g) (some t) os = true then (runs os ρ1).bind fun xs ρ2 => .ok (some t :: xs) ρ2 else .bad:=by
 simp only [runs,Opd.run]
 cases g ρ <;> rfl
theorem runs_iv {g:G T} {os:List Opd} {ρ:Rho}:runs (.iv g :: os) ρ = (g ρ).bind fun t ρ1 => match t with
  | .d (.int i) => (runs os ρ1).bind fun xs ρ2 => .ok (some (.d (.int i)) :: xs) ρ2
  | _ => .bad:=by
 simp only [runs,Opd.run]
 cases g ρ with
 | ok t ρ' =>
  cases t with
  | d x => cases x <;> rfl
  | _ => rfl
 | _ => rfl
section
variable {K:Par} {W:XW} {σ:St} {F0 H0:Hp} {fp0:Nat→List Addr}
theorem still_ok {F H:Hp} {fp:Nat→List Addr} {ρ:Rho} (s:Sim K F H σ ρ fp):∀ (os:List Opd),os.all Opd.still = true→os.all Opd.fine = true→∀ {P:List (Option T)→Rho→Prop},OutR K W F0 H0 σ fp0 P (runs os ρ) →
  ∃ vs xs,ArgsR K F H σ fp os vs xs []∧P xs ρ∧∀ Q:List V→Hp→Prop,Q vs H→tOs K W os σ H Q
 | [],_,_,P,o => ⟨[],[],.nil,o,fun Q q => q⟩
 | .nm i :: os,h,f,P,o => by
  simp only [List.all_cons,Bool.and_eq_true] at h f
  cases q:getS ρ i with
  | none => rw [runs_nm0 q] at o; exact o.elim
  | some t =>
   rw [runs_nm q] at o
   obtain ⟨v,hv,_⟩:=s.sl i t (getS_some q)
   obtain ⟨vs,xs,ha,p,k⟩:=still_ok s os h.2 f.2 o.bind
   exact ⟨v :: vs,none :: xs,.nm hv ha,p,fun Q z => ⟨v,hv,k (fun ws H' => Q (v :: ws) H') z⟩⟩
 | .con v x :: os,h,f,P,o => by
  simp only [List.all_cons,Bool.and_eq_true] at h f
  rw [runs_con] at o
  obtain ⟨vs,xs,ha,p,k⟩:=still_ok s os h.2 f.2 o.bind
  exact ⟨v :: vs,some (.d x) :: xs,.con (conOk.fz f.1) ha,p,fun Q z => k (fun ws H' => Q (v :: ws) H') z⟩
 | .val g :: os,h,_,P,o => by simp [Opd.still] at h
 | .pk g :: os,h,_,P,o => by simp [Opd.still] at h
 | .iv g :: os,h,_,P,o => by simp [Opd.still] at h
theorem runs_ok:∀ (os:List Opd),os.all Opd.fine = true→∀ {F H:Hp} {fp:Nat→List Addr} {ρ:Rho} {A0:List Addr} {P:List (Option T)→Rho→Prop} {Q:List V→Hp→Prop},Ext F0 H0 fp0 F H fp A0→Sim K F H σ ρ fp→OutR K W F0 H0 σ fp0 P (runs os ρ) →
  (∀ vs xs ρ' F' H' fp' B,Sim K F' H' σ ρ' fp'→Ext F H fp F' H' fp' B→ArgsR K F' H' σ fp' os vs xs B→P xs ρ'→Q vs H')→tOs K W os σ H Q
 | [],_,F,H,fp,ρ,A0,P,Q,x0,s,o,k => k [] [] ρ F H fp [] s (Ext.refl F H fp) .nil o
 | .nm i :: os,f,F,H,fp,ρ,A0,P,Q,x0,s,o,k => by
  simp only [List.all_cons,Bool.and_eq_true] at f
  cases q:getS ρ i with
  | none => rw [runs_nm0 q] at o; exact o.elim
  | some t =>
   rw [runs_nm q] at o
   obtain ⟨v,hv,_⟩:=s.sl i t (getS_some q)
   exact ⟨v,hv,runs_ok os f.2 x0 s o.bind fun vs xs ρ' F' H' fp' B s' x ha p => k (v :: vs) (none :: xs) ρ' F' H' fp' B s' x (.nm hv ha) p⟩
 | .con v y :: os,f,F,H,fp,ρ,A0,P,Q,x0,s,o,k => by
  simp only [List.all_cons,Bool.and_eq_true] at f
  rw [runs_con] at o
  exact runs_ok (Q:=fun ws H' => Q (v :: ws) H') os f.2 x0 s o.bind fun vs xs ρ' F' H' fp' B s' x ha p => k (v :: vs) (some (.d y) :: xs) ρ' F' H' fp' B s' x (.con (conOk.fz f.1) ha) p
 | .val g :: os,f,F,H,fp,ρ,A0,P,Q,x0,s,o,k => by
  simp only [List.all_cons,Bool.and_eq_true] at f
  rw [runs_val] at o
  refine ⟨ρ,F,fp,s,o.bind.imp x0 fun t ρ1 _ o v F1 H1 fp1 A s1 m x1 => ?_⟩
  refine runs_ok (Q:=fun ws H' => Q (v :: ws) H') os f.2 (x0.trans x1) s1 o.bind fun vs xs ρ' F' H' fp' B s' x ha p => ?_
  obtain ⟨m',nb⟩:=m.on s1 x s'
  refine k (v :: vs) (some t :: xs) ρ' F' H' fp' (A++B) s' ((x1.trans x).more fun a h => ?_) (.val m' nb ha) p
  (rcases List.mem_append.mp h with h | h)
  ·exact .inr (x1.own a (.inl h))
  ·exact .inl h
 | .pk g :: os,f,F,H,fp,ρ,A0,P,Q,x0,s,o,k => by
  simp only [List.all_cons,Bool.and_eq_true] at f
  rw [runs_pk] at o
  refine ⟨ρ,F,fp,s,o.bind.imp x0 fun t ρ1 _ o v F1 H1 fp1 A s1 m x1 => ?_⟩
  by_cases c:Opd.safe (.pk g) (some t) os = true
  ·rw [if_pos c] at o
   by_cases c2:os.all Opd.still = true
   ·obtain ⟨vs,xs,ha,p,z⟩:=still_ok s1 os c2 f.2 o.bind
    exact z (fun ws H' => Q (v :: ws) H') (k (v :: vs) (some t :: xs) ρ1 F1 H1 fp1 [] s1 x1 (.pk m ha) p)
   ·simp only [Opd.safe,Bool.or_eq_true,c2,or_false] at c
    cases t with
    | d y =>
     cases m with
     | d hy =>
     refine runs_ok (Q:=fun ws H' => Q (v :: ws) H') os f.2 (x0.trans x1) s1 o.bind fun vs xs ρ' F' H' fp' B s' x ha p => ?_
     exact k (v :: vs) (some (.d y) :: xs) ρ' F' H' fp' B s' (x1.trans x) (.pk (.d (hy.mono x.fsub)) ha) p
    | _ => simp [isD] at c
  ·rw [if_neg c] at o; exact o.elim
 | .iv g :: os,f,F,H,fp,ρ,A0,P,Q,x0,s,o,k => by
  simp only [List.all_cons,Bool.and_eq_true] at f
  rw [runs_iv] at o
  refine ⟨ρ,F,fp,s,o.bind.imp x0 fun t ρ1 _ o v F1 H1 fp1 A s1 m x1 => ?_⟩
  cases t with
  | d y =>
   cases y with
   | int i =>
    cases m.r with
    | d z =>
     cases z
     refine ⟨i,rfl,runs_ok (Q:=fun ws H' => Q (.int i :: ws) H') os f.2 (x0.trans x1) s1 o.bind fun vs xs ρ' F' H' fp' B s' x ha p => ?_⟩
     exact k (.int i :: vs) (some (.d (.int i)) :: xs) ρ' F' H' fp' B s' (x1.trans x) (.iv ha) p
   | _ => exact o.elim
  | _ => exact o.elim
theorem ArgsR.all {F H:Hp} {fp:Nat→List Addr} {ρ:Rho} (s:Sim K F H σ ρ fp):∀ {os:List Opd} {vs:List V} {xs:List (Option T)} {B:List Addr} {ts:List T},ArgsR K F H σ fp os vs xs B→fins os xs ρ = some ts→Paired (fun v t => ∃ A,R K F H v t A) vs ts
 | _,_,_,_,ts,.nil,h => by
  simp only [fins] at h
  cases h; exact .nil
 | _,_,_,_,ts,.nm (i:=i) (os:=os) (xs:=xs) hv ha,h => by
  simp only [fins] at h
  cases q:getS ρ i with
  | none => rw [q] at h; simp at h
  | some t =>
   cases q2:fins os xs ρ with
   | none => rw [q,q2] at h; simp at h
   | some us =>
    rw [q,q2] at h; simp at h; subst h
    obtain ⟨v',hv',r⟩:=s.sl i t (getS_some q)
    rw [hv] at hv'; cases hv'
    exact .cons ⟨_,r⟩ (ArgsR.all s ha q2)
 | _,_,_,_,ts,.con (os:=os) (xs:=xs) hv ha,h => by
  simp only [fins] at h
  cases q2:fins os xs ρ with
  | none => rw [q2] at h; simp at h
  | some us => rw [q2] at h; simp at h; subst h; exact .cons ⟨_,.d hv⟩ (ArgsR.all s ha q2)
 | _,_,_,_,ts,.val (os:=os) (xs:=xs) hv _ ha,h => by
  simp only [fins] at h
  cases q2:fins os xs ρ with
  | none => rw [q2] at h; simp at h
  | some us => rw [q2] at h; simp at h; subst h; exact .cons ⟨_,hv.r⟩ (ArgsR.all s ha q2)
 | _,_,_,_,ts,.pk (os:=os) (xs:=xs) hv ha,h => by
  simp only [fins] at h
  cases q2:fins os xs ρ with
  | none => rw [q2] at h; simp at h
  | some us => rw [q2] at h; simp at h; subst h; exact .cons ⟨_,hv⟩ (ArgsR.all s ha q2)
 | _,_,_,_,ts,.iv (os:=os) (xs:=xs) ha,h => by
  simp only [fins] at h
  cases q2:fins os xs ρ with
  | none => rw [q2] at h; simp at h
  | some us => rw [q2] at h; simp at h; subst h; exact .cons ⟨_,.d (.int _)⟩ (ArgsR.all s ha q2)
theorem tO_mono:∀ {o:Opd} {σ:St} {H:Hp} {Q Q':VK},tO K W o σ H Q→(∀ v H',Q v H'→Q' v H')→tO K W o σ H Q'
 | .nm i,σ,H,Q,Q',h,i' => let ⟨v,e,q⟩:=h; ⟨v,e,i' v H q⟩
 | .con v x,σ,H,Q,Q',h,i' => i' v H h
 | .val g,σ,H,Q,Q',h,i' => by
  obtain ⟨ρ,F,fp,s,o⟩:=h
  exact ⟨ρ,F,fp,s,o.imp (Ext.refl F H fp) fun t ρ' _ p v F' H' fp' A s' m x => i' v H' (p v F' H' fp' A s' m x)⟩
 | .pk g,σ,H,Q,Q',h,i' => by
  obtain ⟨ρ,F,fp,s,o⟩:=h
  exact ⟨ρ,F,fp,s,o.imp (Ext.refl F H fp) fun t ρ' _ p v F' H' fp' A s' m x => i' v H' (p v F' H' fp' A s' m x)⟩
 | .iv g,σ,H,Q,Q',h,i' => by
  obtain ⟨ρ,F,fp,s,o⟩:=h
  exact ⟨ρ,F,fp,s,o.imp (Ext.refl F H fp) fun t ρ' _ p v F' H' fp' A s' m x => let ⟨i,e,q⟩:=p v F' H' fp' A s' m x; ⟨i,e,i' v H' q⟩⟩
end
end Hu
namespace Hu
open PySem L2
def Mk (K:Par) (F H:Hp) (t:T) (Q:VK):Prop :=
 ∀ v F' H' A,R K F' H' v t A→Same H H'→Same F F'→Same F' H'→(∀ a o,F' a = some o→F a = some o∨H a = none∨isT o = true)→(∀ a,a∈A→H a = none∧F' a = none)→Q v H'
theorem tupSub_of {H H':Hp} (e:Same H H'):TupSub H H':=fun a xs h => e a _ h
theorem Sim.grow {K:Par} {F H F' H':Hp} {σ:St} {ρ:Rho} {fp:Nat→List Addr} (s:Sim K F H σ ρ fp) (h1:Same H H') (h2:Same F F') (h3:Same F' H') (h4:∀ a o,F' a = some o→F a = some o∨H a = none∨isT o = true):Sim K F' H' σ ρ fp:=by
 have st:∀ i a,a∈fp i→H' a = H a:=fun i a h => by
  obtain ⟨o,e,_⟩:=s.mt i a h
  rw [e]; exact h1 a o e
 refine ⟨s.len,fun i t h => ?_,s.dj,fun i a h => ?_,fun i a h => ?_,h3⟩
 ·obtain ⟨v,e,r⟩:=s.sl i t h
  exact ⟨v,e,r.frame h2 (tupSub_of h1) (st i)⟩
 ·cases q:F' a with
  | none => rfl
  | some o =>
   obtain ⟨u,e,nt⟩:=s.mt i a h
   rcases h4 a o q with z | z | z
   ·rw [s.ff i a h] at z; cases z
   ·rw [e] at z; cases z
   ·have:=h3 a o q
    rw [st i a h,e] at this
    cases this; rw [nt] at z; cases z
 ·obtain ⟨o,e,nt⟩:=s.mt i a h
  exact ⟨o,h1 a o e,nt⟩
theorem Ext.grow {F H F' H':Hp} {fp:Nat→List Addr} {A:List Addr} (h1:Same H H') (h2:Same F F') (h4:∀ a o,F' a = some o→F a = some o∨H a = none∨isT o = true) (h5:∀ a,a∈A→H a = none):Ext F H fp F' H' fp A :=
 ⟨fun a o h _ => h1 a o h,h2,fun a o h => by
  rcases h4 a o h with z | z | z
  ·exact .inl z
  ·exact .inr (.inl z)
  ·exact .inr (.inr (.inl z)),fun a h => by
  rcases h with h | h
  ·exact .inr (h5 a h)
  ·exact .inl h⟩
theorem Post.mk {K:Par} {F H F0 H0:Hp} {σ:St} {ρ:Rho} {fp fp0:Nat→List Addr} {B:List Addr} {t:T} {Q:VK} (s:Sim K F H σ ρ fp) (x:Ext F0 H0 fp0 F H fp B) (p:Post K F0 H0 σ fp0 Q t ρ):Mk K F H t Q:=fun v F' H' A r h1 h2 h3 h4 h5 =>
 p v F' H' fp A (s.grow h1 h2 h3 h4) ⟨r,fun a h i z => (by
  obtain ⟨o,e,_⟩:=s.mt i a z
  rw [(h5 a h).1] at e
  cases e),fun a h => (h5 a h).2⟩ (x.trans (Ext.grow h1 h2 h4 fun a h => (h5 a h).1))
def kP (kk:List T→Option T):List T→G T:=fun ts ρ => match kk ts with
 | some t => .ok t ρ
 | none => .bad
def PureN (K:Par) (r:List V→Hp→VK→Prop) (kk:List T→Option T):Prop :=
 ∀ vs ts F H t,Same F H→Paired (fun v t => ∃ A,R K F H v t A) vs ts→kk ts = some t→∀ Q,Mk K F H t Q→r vs H Q
theorem os_pure {K:Par} {W:XW} {os:List Opd} {kk:List T→Option T} {r:List V→Hp→VK→Prop} (f:os.all Opd.fine = true) (h:PureN K r kk) {σ:St} {H:Hp} {Q:VK} (g:tG K W (gOs os (kP kk)) σ H Q):tOs K W os σ H fun vs H1 => r vs H1 Q:=by
 obtain ⟨ρ,F,fp,s,o⟩:=g
 refine runs_ok os f (Ext.refl F H fp) s o.bind fun vs xs ρ' F' H' fp' B s' x ha p => ?_
 cases q:fins os xs ρ' with
 | none => rw [q] at p; exact p.elim
 | some ts =>
  rw [q] at p
  unfold kP at p
  simp only at p
  cases q2:kk ts with
  | none => rw [q2] at p; exact p.elim
  | some t =>
   rw [q2] at p
   exact h vs ts F' H' t s'.sub (ha.all s' q) q2 Q (Post.mk s' x p)
section
variable {K:Par} {F H:Hp} {Q:VK}
theorem mk_scal {v:V} {x:D} (h:Mk K F H (.d x) Q) (e:Same F H) (z:Fz K F v x):Q v H :=
 h v F H [] (.d z) (Same.refl H) (Same.refl F) e (fun _ _ q => .inl q) fun _ q => absurd q (by simp)
theorem same_upd {H:Hp} {p:Addr} {o:HO} (n:H p = none):Same H (upd H p o):=fun a u h => by
 rw [upd_ne (ne_of_none h n)]; exact h
theorem RA.dats {K:Par} {F H:Hp}:∀ {vs:List V} {ds:List D},FzA K F vs ds→RA K F H vs (ds.map T.d) []
 | _,_,.nil => .nil
 | _,_,.cons h1 h2 => RA.cons (A:=[]) (B:=[]) (.d h1) (RA.dats h2) fun _ q => absurd q (by simp)
theorem mk_list {vs:List V} {ds:List D} (h:Mk K F H (.lst (ds.map T.d)) Q) (e:Same F H) (z:FzA K F vs ds):∀ p,H p = none→Q (.ref p) (upd H p (.lst vs)):=fun p n => by
 have fn:F p = none:=e.free n
 refine h _ F _ [p] (.lst upd_same (RA.dats z) (by simp)) (same_upd n) (Same.refl F) (e.trans (same_upd n)) (fun _ _ q => .inl q) fun a q => ?_
 simp at q; subst q; exact ⟨n,fn⟩
theorem mk_tup {vs:List V} {ds:List D} (h:Mk K F H (.d (.tuple ds)) Q) (e:Same F H) (z:FzA K F vs ds):∀ p,H p = none→Q (.ref p) (upd H p (.tup vs)):=fun p n => by
 have fn:F p = none:=e.free n
 refine h _ (upd F p (.tup vs)) _ [] (.d (.tup upd_same (z.mono (same_upd fn)))) (same_upd n) (same_upd fn) (fun a o q => ?_) (fun a o q => ?_) fun _ q => absurd q (by simp)
 ·by_cases c:a = p
  ·subst c; rw [upd_same] at q ⊢; exact q
  ·rw [upd_ne c] at q ⊢; exact e a o q
 ·by_cases c:a = p
  ·subst c; exact .inr (.inl n)
  ·rw [upd_ne c] at q; exact .inl q
end
def asDs:List T→Option (List D)
 | [] => some []
 | .d x :: ts => (asDs ts).map (x :: ·)
 | _ :: _ => none
theorem asDs_map (ds:List D):asDs (ds.map T.d) = some ds:=by
 induction ds with
 | nil => rfl
 | cons x r ih => simp [asDs,ih]
theorem asDs_some:∀ {ts:List T} {ds:List D},asDs ts = some ds→ts = ds.map T.d
 | [],ds,h => by simp [asDs] at h; subst h; rfl
 | .d x :: ts,ds,h => by
  simp only [asDs,Option.map_eq_some_iff] at h
  obtain ⟨r,h1,rfl⟩:=h
  simp [asDs_some h1]
theorem RA.fz {K:Par} {F H:Hp}:∀ {vs:List V} {ds:List D} {A:List Addr},RA K F H vs (ds.map T.d) A→FzA K F vs ds
 | _,[],_,.nil => .nil
 | _,_ :: _,_,.cons (.d h) r _ => .cons h (RA.fz r)
def listOf:T→Option (List D)
 | .d (.list ds) => some ds
 | .lst ts => asDs ts
 | _ => none
def tupOf:T→Option (List D)
 | .d (.tuple ds) => some ds
 | .tup ts => asDs ts
 | _ => none
theorem listOf_at {K:Par} {F H:Hp} (e:Same F H) {v:V} {t:T} {A:List Addr} {ds:List D} (r:R K F H v t A) (h:listOf t = some ds):∃ a vs,v = .ref a∧H a = some (.lst vs)∧FzA K F vs ds:=by
 unfold listOf at h
 split at h
 ·cases h
  cases r with
  | d z =>
   cases z with
   | lst h1 h2 => exact ⟨_,_,rfl,e _ _ h1,h2⟩
 ·have:=asDs_some h
  subst this
  cases r with
  | lst h1 h2 _ => exact ⟨_,_,rfl,h1,h2.fz⟩
 ·cases h
theorem tupOf_at {K:Par} {F H:Hp} (e:Same F H) {v:V} {t:T} {A:List Addr} {ds:List D} (r:R K F H v t A) (h:tupOf t = some ds):∃ a vs,v = .ref a∧SqT K.K H a vs∧FzA K F vs ds:=by
 unfold tupOf at h
 split at h
 ·cases h
  cases r with
  | d z =>
   cases z with
   | tup h1 h2 => exact ⟨_,_,rfl,.of (e _ _ h1),h2⟩
 ·have:=asDs_some h
  subst this
  cases r with
  | tup h1 h2 => exact ⟨_,_,rfl,.of h1,h2.fz⟩
 ·cases h
def seqOf (t:T):Option (List D):=(listOf t).or (tupOf t)
theorem seqOf_at {K:Par} {F H:Hp} (e:Same F H) {v:V} {t:T} {A:List Addr} {ds:List D} (r:R K F H v t A) (h:seqOf t = some ds):∃ a vs,v = .ref a∧(SqL K.K H a vs∨SqT K.K H a vs)∧FzA K F vs ds:=by
 unfold seqOf at h
 cases q:listOf t with
 | some xs =>
  rw [q] at h; simp at h; subst h
  obtain ⟨a,vs,e1,e2,z⟩:=listOf_at e r q
  exact ⟨a,vs,e1,.inl (.of e2),z⟩
 | none =>
  rw [q] at h; simp at h
  obtain ⟨a,vs,e1,e2,z⟩:=tupOf_at e r h
  exact ⟨a,vs,e1,.inr e2,z⟩
mutual
def datOf:T→Option D
 | .d x => some x
 | .lst ts => (datsOf ts).map .list
 | .tup ts => (datsOf ts).map .tuple
 | _ => none
def datsOf:List T→Option (List D)
 | [] => some []
 | t :: ts => match datOf t,datsOf ts with
  | some x,some xs => some (x :: xs)
  | _,_ => none
end
theorem datsOf_map (ds:List D):datsOf (ds.map T.d) = some ds:=by
 induction ds with
 | nil => rfl
 | cons x r ih => simp [datsOf,datOf,ih]
mutual
theorem datOf_dp {K:Par} {F H:Hp} (e:Same F H):∀ {v:V} {t:T} {A:List Addr} {x:D},R K F H v t A→datOf t = some x→noDict x = true→Dp K.K H v x
 | _,_,_,x,.d h,q,n => by
  simp only [datOf,Option.some.injEq] at q; subst q; exact h.dp e n
 | _,_,_,x,.lst h1 h2 _,q,n => by
  simp only [datOf,Option.map_eq_some_iff] at q
  obtain ⟨xs,q1,rfl⟩:=q
  exact .lst (.of h1) (datsOf_dp e h2 q1 (by simpa [noDict] using n))
 | _,_,_,x,.tup h1 h2,q,n => by
  simp only [datOf,Option.map_eq_some_iff] at q
  obtain ⟨xs,q1,rfl⟩:=q
  exact .tup (.of h1) (datsOf_dp e h2 q1 (by simpa [noDict] using n))
 | _,_,_,x,.scr _,q,n => by simp [datOf] at q
 | _,_,_,x,.dK _ _ _ _,q,n => by simp [datOf] at q
 | _,_,_,x,.dT _ _ _ _,q,n => by simp [datOf] at q
 | _,_,_,x,.ins _ _ _ _ _ _,q,n => by simp [datOf] at q
theorem datsOf_dp {K:Par} {F H:Hp} (e:Same F H):∀ {vs:List V} {ts:List T} {A:List Addr} {xs:List D},RA K F H vs ts A→datsOf ts = some xs→noDictA xs = true→DpAll K.K H vs xs
 | _,_,_,xs,.nil,q,n => by simp [datsOf] at q; subst q; exact .nil
 | _,_,_,xs,.cons (t:=t) (ts:=ts) h1 h2 _,q,n => by
  simp only [datsOf] at q
  cases q1:datOf t with
  | none => rw [q1] at q; simp at q
  | some y =>
   cases q2:datsOf ts with
   | none => rw [q1,q2] at q; simp at q
   | some ys =>
    rw [q1,q2] at q; simp at q; subst q
    simp only [noDictA,Bool.and_eq_true] at n
    exact .cons (datOf_dp e h1 q1 n.1) (datsOf_dp e h2 q2 n.2)
end
end Hu
namespace Hu
open PySem L2
def rr2 (r:R2):List V→Hp→VK→Prop:=fun vs H Q => match vs with
 | [x,y] => r x y H Q
 | _ => False
def kk2 (k:T→T→Option T):List T→Option T
 | [a,b] => k a b
 | _ => none
def rr1 (r:V→Hp→VK→Prop):List V→Hp→VK→Prop:=fun vs H Q => match vs with
 | [x] => r x H Q
 | _ => False
def kk1 (k:T→Option T):List T→Option T
 | [a] => k a
 | _ => none
def Pure2 (K:Par) (r:R2) (k:T→T→Option T):Prop :=
 ∀ x y tx ty Ax Ay F H t,Same F H→R K F H x tx Ax→R K F H y ty Ay→k tx ty = some t→∀ Q,Mk K F H t Q→r x y H Q
def Pure1 (K:Par) (r:V→Hp→VK→Prop) (k:T→Option T):Prop :=
 ∀ x tx Ax F H t,Same F H→R K F H x tx Ax→k tx = some t→∀ Q,Mk K F H t Q→r x H Q
theorem pure2 {K:Par} {r:R2} {k:T→T→Option T} (h:Pure2 K r k):PureN K (rr2 r) (kk2 k):=fun vs ts F H t e p q Q m => by
 cases p with
 | nil => simp [kk2] at q
 | cons r1 p =>
  cases p with
  | nil => simp [kk2] at q
  | cons r2 p =>
   cases p with
   | nil =>
    obtain ⟨A,r1⟩:=r1
    obtain ⟨B,r2⟩:=r2
    exact h _ _ _ _ A B F H t e r1 r2 q Q m
   | cons _ _ => simp [kk2] at q
theorem pure1 {K:Par} {r:V→Hp→VK→Prop} {k:T→Option T} (h:Pure1 K r k):PureN K (rr1 r) (kk1 k):=fun vs ts F H t e p q Q m => by
 cases p with
 | nil => simp [kk1] at q
 | cons r1 p =>
  cases p with
  | nil =>
   obtain ⟨A,r1⟩:=r1
   exact h _ _ A F H t e r1 q Q m
  | cons _ _ => simp [kk1] at q
theorem Pure2.or {K:Par} {r r':R2} {k k':T→T→Option T} (h:Pure2 K r k) (h':Pure2 K r' k'):Pure2 K (fun x y H Q => r x y H Q∨r' x y H Q) (fun a b => (k a b).or (k' a b)):=fun x y tx ty Ax Ay F H t e r1 r2 q Q m => by
 replace q:(k tx ty).or (k' tx ty) = some t:=q
 cases c:k tx ty with
 | some z => rw [c] at q; simp at q; subst q; exact .inl (h x y tx ty Ax Ay F H z e r1 r2 c Q m)
 | none => rw [c] at q; simp at q; exact .inr (h' x y tx ty Ax Ay F H t e r1 r2 q Q m)
theorem Pure1.or {K:Par} {r r':V→Hp→VK→Prop} {k k':T→Option T} (h:Pure1 K r k) (h':Pure1 K r' k'):Pure1 K (fun x H Q => r x H Q∨r' x H Q) (fun a => (k a).or (k' a)):=fun x tx Ax F H t e r1 q Q m => by
 replace q:(k tx).or (k' tx) = some t:=q
 cases c:k tx with
 | some z => rw [c] at q; simp at q; subst q; exact .inl (h x tx Ax F H z e r1 c Q m)
 | none => rw [c] at q; simp at q; exact .inr (h' x tx Ax F H t e r1 q Q m)
section
variable {K:Par} {F H:Hp} {v:V} {A:List Addr}
theorem R.int {i:Int} (r:R K F H v (.d (.int i)) A):v = .int i:=by cases r with | d h => cases h; rfl
theorem R.str {x:Str} (r:R K F H v (.d (.str x)) A):v = .str x:=by cases r with | d h => cases h; rfl
theorem R.bl {b:Bool} (r:R K F H v (.d (.bool b)) A):v = .bl b:=by cases r with | d h => cases h; rfl
theorem R.non (r:R K F H v (.d .none) A):v = .non:=by cases r with | d h => cases h; rfl
end
def kI2 (C:Int→Int→Bool) (g:Int→Int→D):T→T→Option T
 | .d (.int a),.d (.int b) => if C a b = true then some (.d (g a b)) else none
 | _,_ => none
theorem kI2_some {C:Int→Int→Bool} {g:Int→Int→D} {a b t:T} (h:kI2 C g a b = some t):∃ i j,a = .d (.int i)∧b = .d (.int j)∧C i j = true∧t = .d (g i j):=by
 unfold kI2 at h
 split at h
 ·split at h
  ·cases h; exact ⟨_,_,rfl,rfl,by assumption,rfl⟩
  ·cases h
 ·cases h
theorem pure_I2 {K:Par} {C:Int→Int→Bool} {g:Int→Int→D} {P:Int→Int→Prop} {gv:Int→Int→V} (hc:∀ i j,C i j = true→P i j) (hg:∀ (F:Hp) i j,Fz K F (gv i j) (g i j)):Pure2 K (rI P gv) (kI2 C g):=fun x y tx ty Ax Ay F H t e r1 r2 q Q m => by
 obtain ⟨i,j,rfl,rfl,c,rfl⟩:=kI2_some q
 exact ⟨i,j,r1.int,r2.int,hc i j c,mk_scal m e (hg F i j)⟩
theorem pure_I0 {K:Par} {g:Int→Int→D} {gv:Int→Int→V} (hg:∀ (F:Hp) i j,Fz K F (gv i j) (g i j)):Pure2 K (rI0 gv) (kI2 (fun _ _ => true) g):=fun x y tx ty Ax Ay F H t e r1 r2 q Q m => by
 obtain ⟨i,j,rfl,rfl,c,rfl⟩:=kI2_some q
 exact ⟨i,j,r1.int,r2.int,mk_scal m e (hg F i j)⟩
def in64 (i:Int):Bool:=decide (i.natAbs < 2 ^ 64)
def kAddI:T→T→Option T:=kI2 (fun _ _ => true) fun a b => .int (a + b)
def kSubI:T→T→Option T:=kI2 (fun _ _ => true) fun a b => .int (a - b)
def kMulI:T→T→Option T:=kI2 (fun a b => in64 a||in64 b) fun a b => .int (a * b)
def kDivI:T→T→Option T:=kI2 (fun _ b => decide (0 < b)&&decide (b.natAbs < 1073741824)) fun a b => .int (a / b)
def kModI:T→T→Option T:=kI2 (fun _ b => decide (0 < b)) fun a b => .int (a % b)
def kPowI:T→T→Option T:=kI2 (fun a b => decide (0≤b)&&decide (b≤1000000)&&decide (a.natAbs < 2 ^ 64)) fun a b => .int (a ^ b.toNat)
theorem p_addI {K:Par}:Pure2 K (rI0 fun i j => .int (i + j)) kAddI:=pure_I0 fun _ _ _ => .int _
theorem p_subI {K:Par}:Pure2 K (rI0 fun i j => .int (i - j)) kSubI:=pure_I0 fun _ _ _ => .int _
theorem p_mulI {K:Par}:Pure2 K (rI CMul fun i j => .int (i * j)) kMulI:=pure_I2 (fun i j h => by
 simp only [in64,Bool.or_eq_true,decide_eq_true_eq] at h
 rcases h with h | h
 ·exact .inl ⟨by omega,by omega⟩
 ·exact .inr ⟨by omega,by omega⟩) fun _ _ _ => .int _
theorem p_divI {K:Par}:Pure2 K (rI CDiv fun i j => .int (i / j)) kDivI:=pure_I2 (fun i j h => by
 simp only [Bool.and_eq_true,decide_eq_true_eq] at h; exact ⟨h.1,by omega⟩) fun _ _ _ => .int _
theorem p_modI {K:Par}:Pure2 K (rI (fun _ j => 0 < j) fun i j => .int (i % j)) kModI:=pure_I2 (fun i j h => of_decide_eq_true h) fun _ _ _ => .int _
theorem p_powI {K:Par}:Pure2 K (rI CPow fun i j => .int (i ^ j.toNat)) kPowI:=pure_I2 (fun i j h => by
 simp only [Bool.and_eq_true,decide_eq_true_eq] at h; exact ⟨h.1.1,h.1.2,h.2⟩) fun _ _ _ => .int _
def kLtI:T→T→Option T:=kI2 (fun _ _ => true) fun a b => .bool (decide (a < b))
def kLeI:T→T→Option T:=kI2 (fun _ _ => true) fun a b => .bool (decide (a≤b))
def kGtI:T→T→Option T:=kI2 (fun _ _ => true) fun a b => .bool (decide (b < a))
def kGeI:T→T→Option T:=kI2 (fun _ _ => true) fun a b => .bool (decide (b≤a))
theorem p_ltI {K:Par}:Pure2 K (rI0 fun i j => .bl (decide (i < j))) kLtI:=pure_I0 fun _ _ _ => .bl _
theorem p_gtI {K:Par}:Pure2 K (rI0 fun i j => .bl (decide (j < i))) kGtI:=pure_I0 fun _ _ _ => .bl _
theorem p_geI {K:Par}:Pure2 K (rI0 fun i j => .bl (decide (j≤i))) kGeI:=pure_I0 fun _ _ _ => .bl _
def kAddS:T→T→Option T
 | .d (.str a),.d (.str b) => if a.length + b.length≤sizeLine then some (.d (.str (a++b))) else none
 | _,_ => none
theorem p_addS {K:Par}:Pure2 K (fun x y H Q => ∃ i j,x = .str i∧y = .str j∧i.length + j.length≤sizeLine∧Q (.str (i++j)) H) kAddS:=fun x y tx ty Ax Ay F H t e r1 r2 q Q m => by
 unfold kAddS at q
 split at q
 ·split at q
  ·cases q; exact ⟨_,_,r1.str,r2.str,by assumption,mk_scal m e (.str _)⟩
  ·cases q
 ·cases q
def kAddL (a b:T):Option T:=match listOf a,listOf b with
 | some xs,some ys => if xs.length + ys.length≤sizeLine then some (.lst ((xs++ys).map T.d)) else none
 | _,_ => none
theorem p_addL {K:Par}:Pure2 K rCat kAddL:=fun x y tx ty Ax Ay F H t e r1 r2 q Q m => by
 unfold kAddL at q
 split at q
 ·rename_i xs ys h1 h2
  split at q
  ·rename_i hz
   cases q
   obtain ⟨a,vs,rfl,ha,fa⟩:=listOf_at e r1 h1
   obtain ⟨b,ws,rfl,hb,fb⟩:=listOf_at e r2 h2
   exact ⟨a,b,vs,ws,rfl,rfl,ha,hb,by rw [fa.length,fb.length]; exact hz,mk_list m e (fa.append fb)⟩
  ·cases q
 ·cases q
theorem tupOf_fz {K:Par} {F H:Hp} (e:Same F H) {v:V} {t:T} {A:List Addr} {ds:List D} {Q:VK} (r:R K F H v t A) (h:tupOf t = some ds) (m:Mk K F H (.d (.tuple ds)) Q):Q v H:=by
 unfold tupOf at h
 split at h
 ·cases h
  cases r with
  | d z => exact mk_scal m e z
 ·have:=asDs_some h
  subst this
  cases r with
  | @tup a vs _ A h1 h2 =>
   have fz:=h2.fz
   have sm:Same F (upd F a (.tup vs)):=fun b o q => by
    by_cases c:b = a
    ·subst c; rw [upd_same]; rw [← e b o q]; exact h1.symm
    ·rw [upd_ne c]; exact q
   refine m _ (upd F a (.tup vs)) H [] (.d (.tup upd_same (fz.mono sm))) (Same.refl H) sm (fun b o q => ?_) (fun b o q => ?_) fun _ q => absurd q (by simp)
   ·by_cases c:b = a
    ·subst c; rw [upd_same] at q; cases q; exact h1
    ·rw [upd_ne c] at q; exact e b o q
   ·by_cases c:b = a
    ·subst c; rw [upd_same] at q; cases q; exact .inr (.inr rfl)
    ·rw [upd_ne c] at q; exact .inl q
 ·cases h
def kAddT (a b:T):Option T:=match tupOf a,tupOf b with
 | some xs,some ys => if xs.length + ys.length≤sizeLine then some (.d (.tuple (xs++ys))) else none
 | _,_ => none
theorem p_addT {K:Par}:Pure2 K (rCatA K.K) kAddT:=fun x y tx ty Ax Ay F H t e r1 r2 q Q m => by
 unfold kAddT at q
 split at q
 ·rename_i xs ys h1 h2
  split at q
  ·rename_i hz
   cases q
   obtain ⟨a,vs,rfl,ha,fa⟩:=tupOf_at e r1 h1
   obtain ⟨b,ws,rfl,hb,fb⟩:=tupOf_at e r2 h2
   refine ⟨a,b,vs,ws,rfl,rfl,ha,hb,by rw [fa.length,fb.length]; exact hz,fun h0 => ?_,fun h0 h3 => ?_,fun _ _ => mk_tup m e (fa.append fb)⟩
   ·subst h0
    cases fa
    exact tupOf_fz e r2 h2 m
   ·subst h3
    cases fb
    exact tupOf_fz e r1 h1 (by simpa using m)
  ·cases q
 ·cases q
def kAdd:T→T→Option T:=fun a b => (kAddI a b).or ((kAddS a b).or ((kAddL a b).or (kAddT a b)))
def kMulL (a b:T):Option T:=match listOf a,b with
 | some xs,.d (.int k) => if (decide (k.natAbs < 2 ^ 63)&&decide (xs.length * k.toNat≤sizeLine)) = true then some (.lst ((List.replicate k.toNat xs).flatten.map T.d)) else none
 | _,_ => none
theorem FzA.rep {K:Par} {F:Hp} {vs:List V} {ds:List D} (h:FzA K F vs ds):∀ k:Nat,FzA K F (List.replicate k vs).flatten (List.replicate k ds).flatten
 | 0 => by simpa using FzA.nil
 | k + 1 => by simpa [List.replicate_succ] using h.append (FzA.rep h k)
theorem p_mulL {K:Par}:Pure2 K rRep kMulL:=fun x y tx ty Ax Ay F H t e r1 r2 q Q m => by
 unfold kMulL at q
 split at q
 ·rename_i xs k h1
  split at q
  ·rename_i hz
   simp only [Bool.and_eq_true,decide_eq_true_eq] at hz
   cases q
   obtain ⟨a,vs,rfl,ha,fa⟩:=listOf_at e r1 h1
   exact ⟨a,k,vs,rfl,r2.int,ha,by omega,by omega,by rw [fa.length]; exact hz.2,mk_list m e (fa.rep _)⟩
  ·cases q
 ·cases q
def kMul:T→T→Option T:=fun a b => (kMulI a b).or (kMulL a b)
def okD (x:D):Bool:=SeqAt.shaped x
mutual
theorem noDict_of_lay:∀ x:D,x.canLay0 = true→noDict x = true
 | .none,_ => rfl
 | .bool _,_ => rfl
 | .int _,_ => rfl
 | .str _,_ => rfl
 | .list xs,h => by
  simp only [PyData.canLay0] at h
  simp only [noDict]; exact noDictA_of_lay xs h
 | .tuple xs,h => by
  simp only [PyData.canLay0] at h
  simp only [noDict]; exact noDictA_of_lay xs h
 | .dict _,h => by simp [PyData.canLay0] at h
theorem noDictA_of_lay:∀ xs:List D,PyData.canLayAll0 xs = true→noDictA xs = true
 | [],_ => rfl
 | x :: xs,h => by
  simp only [PyData.canLayAll0,Bool.and_eq_true] at h
  simp only [noDictA,Bool.and_eq_true]
  exact ⟨noDict_of_lay x h.1,noDictA_of_lay xs h.2⟩
end
theorem okD_noDict {x:D} (h:okD x = true):noDict x = true:=noDict_of_lay x (SeqAt.canLay_of_shaped h)
def kEqv (neg:Bool) (a b:T):Option T:=match datOf a,datOf b with
 | some x,some y => if (okD x&&okD y) = true then some (.d (.bool (if neg then !PyData.eqv x y else PyData.eqv x y))) else none
 | _,_ => none
theorem p_eq {K:Par}:Pure2 K (rEqD K.K) (kEqv false):=fun x y tx ty Ax Ay F H t e r1 r2 q Q m => by
 unfold kEqv at q
 split at q
 ·rename_i dx dy h1 h2
  split at q
  ·rename_i hz
   simp only [Bool.and_eq_true] at hz
   cases q
   exact ⟨dx,dy,datOf_dp e r1 h1 (okD_noDict hz.1),datOf_dp e r2 h2 (okD_noDict hz.2),hz.1,hz.2,mk_scal m e (.bl _)⟩
  ·cases q
 ·cases q
theorem p_ne {K:Par}:Pure2 K (rNeD K.K) (kEqv true):=fun x y tx ty Ax Ay F H t e r1 r2 q Q m => by
 unfold kEqv at q
 split at q
 ·rename_i dx dy h1 h2
  split at q
  ·rename_i hz
   simp only [Bool.and_eq_true] at hz
   cases q
   exact ⟨dx,dy,datOf_dp e r1 h1 (okD_noDict hz.1),datOf_dp e r2 h2 (okD_noDict hz.2),hz.1,hz.2,mk_scal m e (.bl _)⟩
  ·cases q
 ·cases q
def isNone:T→Bool
 | .d .none => true
 | _ => false
theorem isNone_at {K:Par} {F H:Hp} {v:V} {t:T} {A:List Addr} (r:R K F H v t A):decide (v = .non) = isNone t:=by
 cases r with
 | d h => cases h <;> simp [isNone]
 | _ => simp [isNone]
def kIsN (neg:Bool) (a b:T):Option T:=if isNone b = true then some (.d (.bool (if neg then !isNone a else isNone a))) else none
theorem p_isN {K:Par}:Pure2 K (fun x y H Q => y = .non∧Q (.bl (decide (x = .non))) H) (kIsN false):=fun x y tx ty Ax Ay F H t e r1 r2 q Q m => by
 unfold kIsN at q
 split at q
 ·rename_i h
  cases q
  refine ⟨?_,mk_scal m e (by rw [isNone_at r1]; exact .bl _)⟩
  have:=isNone_at r2
  rw [h] at this; exact of_decide_eq_true this
 ·cases q
theorem p_notN {K:Par}:Pure2 K (fun x y H Q => y = .non∧Q (.bl (!decide (x = .non))) H) (kIsN true):=fun x y tx ty Ax Ay F H t e r1 r2 q Q m => by
 unfold kIsN at q
 split at q
 ·rename_i h
  cases q
  refine ⟨?_,mk_scal m e (by rw [isNone_at r1]; exact .bl _)⟩
  have:=isNone_at r2
  rw [h] at this; exact of_decide_eq_true this
 ·cases q
def kIsB (neg:Bool):T→T→Option T
 | .d (.bool a),.d (.bool b) => some (.d (.bool (if neg then !decide (a = b) else decide (a = b))))
 | _,_ => none
def flatD:D→Bool
 | .none => true
 | .bool _ => true
 | .int _ => true
 | .str _ => true
 | _ => false
theorem flat_at {K:Par} {F:Hp} {v:V} {x:D} (h:Fz K F v x) (f:flatD x = true):flatV v = true:=by
 cases h <;> first | rfl | simp [flatD] at f
theorem eqV_at {K:Par} {F:Hp} {v w:V} {x y:D} (h:Fz K F v x) (h2:Fz K F w y) (f:flatD x = true) (f2:flatD y = true):eqV v w = PyData.eqv x y:=by
 cases h <;> first | (simp [flatD] at f; done) | (cases h2 <;> first | (simp [flatD] at f2; done) | rfl)
theorem inV_at {K:Par} {F:Hp} {v:V} {x:D} (h:Fz K F v x) (f:flatD x = true):∀ {vs:List V} {ds:List D},FzA K F vs ds→ds.all flatD = true→vs.all flatV = true∧inV v vs = ds.any fun y => PyData.eqv y x
 | _,_,.nil,_ => ⟨rfl,rfl⟩
 | _,_,.cons h1 h2,g => by
  simp only [List.all_cons,Bool.and_eq_true] at g
  obtain ⟨q1,q2⟩:=inV_at h f h2 g.2
  refine ⟨by simp [flat_at h1 g.1,q1],?_⟩
  unfold inV at q2 ⊢
  rw [List.any_cons,List.any_cons,q2,eqV_at h1 h g.1 f]
def kInF (neg:Bool) (a b:T):Option T:=match a,seqOf b with
 | .d x,some ds => if (flatD x&&ds.all flatD) = true then some (.d (.bool (if neg then !(ds.any fun y => PyData.eqv y x) else ds.any fun y => PyData.eqv y x))) else none
 | _,_ => none
theorem p_inF {K:Par} (neg:Bool):Pure2 K (rIn K.K neg) (kInF neg):=fun x y tx ty Ax Ay F H t e r1 r2 q Q m => by
 unfold kInF at q
 split at q
 ·rename_i dx ds h1
  split at q
  ·rename_i hz
   simp only [Bool.and_eq_true] at hz
   cases q
   cases r1 with
   | d z =>
    obtain ⟨a,vs,rfl,ha,fa⟩:=seqOf_at e r2 h1
    obtain ⟨q1,q2⟩:=inV_at z hz.1 fa hz.2
    exact ⟨a,vs,rfl,ha,flat_at z hz.1,q1,mk_scal m e (by rw [q2]; exact .bl _)⟩
  ·cases q
 ·cases q
def kInD (neg:Bool) (a b:T):Option T:=match datOf a,b with
 | some x,.d (.list ds) => if (okD x&&okD (.list ds)) = true then some (.d (.bool (if neg then !(ds.any fun y => PyData.eqv y x) else ds.any fun y => PyData.eqv y x))) else none
 | some x,.lst ts => match datsOf ts with
  | some ds => if (okD x&&okD (.list ds)) = true then some (.d (.bool (if neg then !(ds.any fun y => PyData.eqv y x) else ds.any fun y => PyData.eqv y x))) else none
  | none => none
 | _,_ => none
theorem kInD_some {neg:Bool} {a b t:T} (h:kInD neg a b = some t):∃ x ds,datOf a = some x∧datOf b = some (.list ds)∧okD x = true∧okD (.list ds) = true∧t = .d (.bool (if neg then !(ds.any fun y => PyData.eqv y x) else ds.any fun y => PyData.eqv y x)):=by
 unfold kInD at h
 split at h
 ·rename_i x ds hx
  split at h
  ·rename_i hz
   simp only [Bool.and_eq_true] at hz
   cases h; exact ⟨x,ds,hx,rfl,hz.1,hz.2,rfl⟩
  ·cases h
 ·rename_i x ts hx
  split at h
  ·rename_i ds hd
   split at h
   ·rename_i hz
    simp only [Bool.and_eq_true] at hz
    cases h; exact ⟨x,ds,hx,by simp [datOf,hd],hz.1,hz.2,rfl⟩
   ·cases h
  ·cases h
 ·cases h
theorem p_inD {K:Par}:Pure2 K (rInD K.K) (kInD false):=fun x y tx ty Ax Ay F H t e r1 r2 q Q m => by
 obtain ⟨d,ds,h1,h2,o1,o2,rfl⟩:=kInD_some q
 exact ⟨d,ds,datOf_dp e r1 h1 (okD_noDict o1),datOf_dp e r2 h2 (okD_noDict o2),o1,o2,mk_scal m e (.bl _)⟩
theorem p_notInD {K:Par}:Pure2 K (rNotInD K.K) (kInD true):=fun x y tx ty Ax Ay F H t e r1 r2 q Q m => by
 obtain ⟨d,ds,h1,h2,o1,o2,rfl⟩:=kInD_some q
 exact ⟨d,ds,datOf_dp e r1 h1 (okD_noDict o1),datOf_dp e r2 h2 (okD_noDict o2),o1,o2,mk_scal m e (.bl _)⟩
end Hu
namespace Hu
open PySem L2
def kLen:T→Option T
 | .d (.list ds) => some (.d (.int ds.length))
 | .d (.tuple ds) => some (.d (.int ds.length))
 | .d (.str z) => if z.length≤sizeLine then some (.d (.int z.length)) else none
 | .lst ts => some (.d (.int ts.length))
 | .tup ts => some (.d (.int ts.length))
 | .scr ns => some (.d (.int ns.length))
 | .dK kvs => some (.d (.int kvs.length))
 | _ => none
def rLenA (K:PySem.W.Frag):List V→Hp→VK→Prop:=fun xs H Q => (∃ p ys,xs = [.ref p]∧(SqL K H p ys∨SqT K H p ys)∧Q (.int ys.length) H)∨((∃ z,xs = [.str z]∧z.length≤sizeLine∧Q (.int z.length) H)∨∃ a kvs,xs = [V.ref a]∧H a = some (.dK kvs)∧Q (.int (kvs.length:Int)) H)
theorem pairedOne {α β:Type} {P:α→β→Prop} {xs:List α} {b:β} (h:Paired P xs [b]):∃ a,xs = [a]∧P a b:=by
 cases h with
 | cons r p => cases p; exact ⟨_,rfl,r⟩
theorem pairedTwo {α β:Type} {P:α→β→Prop} {xs:List α} {b c:β} (h:Paired P xs [b,c]):∃ a a',xs = [a,a']∧P a b∧P a' c:=by
 cases h with
 | cons r p =>
  cases p with
  | cons r2 p => cases p; exact ⟨_,_,rfl,r,r2⟩
theorem kk1_some {k:T→Option T} {ts:List T} {t:T} (h:kk1 k ts = some t):∃ a,ts = [a]∧k a = some t:=by
 unfold kk1 at h
 split at h
 ·exact ⟨_,rfl,h⟩
 ·cases h
theorem kk2_some {k:T→T→Option T} {ts:List T} {t:T} (h:kk2 k ts = some t):∃ a b,ts = [a,b]∧k a b = some t:=by
 unfold kk2 at h
 split at h
 ·exact ⟨_,_,rfl,h⟩
 ·cases h
theorem p_len {K:Par}:PureN K (rLenA K.K) (kk1 kLen):=fun vs ts F H t e p q Q m => by
 obtain ⟨a,rfl,c0⟩:=kk1_some q
 replace q:=c0
 obtain ⟨v,rfl,A,r⟩:=pairedOne p
 cases r with
 | d h =>
  cases h with
  | lst h1 h2 => simp [kLen] at q; subst q; exact .inl ⟨_,_,rfl,.inl (.of (e _ _ h1)),mk_scal m e (by rw [h2.length]; exact .int _)⟩
  | tup h1 h2 => simp [kLen] at q; subst q; exact .inl ⟨_,_,rfl,.inr (.of (e _ _ h1)),mk_scal m e (by rw [h2.length]; exact .int _)⟩
  | str z => simp [kLen] at q; obtain ⟨q1,rfl⟩:=q; exact .inr (.inl ⟨_,rfl,q1,mk_scal m e (.int _)⟩)
  | _ => simp [kLen] at q
 | scr h => simp [kLen] at q; subst q; exact .inl ⟨_,_,rfl,.inl (sqL_on e h),mk_scal m e (by simp; exact .int _)⟩
 | lst h1 h2 _ => simp [kLen] at q; subst q; exact .inl ⟨_,_,rfl,.inl (.of h1),mk_scal m e (by rw [h2.length]; exact .int _)⟩
 | tup h1 h2 => simp [kLen] at q; subst q; exact .inl ⟨_,_,rfl,.inr (.of h1),mk_scal m e (by rw [h2.length]; exact .int _)⟩
 | dK h1 h0 h2 _ =>
  simp [kLen] at q; subst q
  refine .inr (.inr ⟨_,_,rfl,h1,mk_scal m e ?_⟩)
  have:=congrArg List.length h0
  simp at this
  rw [this]; exact .int _
 | _ => simp [kLen] at q
def kAbs:T→Option T
 | .d (.int i) => some (.d (.int (if i < 0 then -i else i)))
 | _ => none
theorem p_abs {K:Par}:PureN K (fun xs H Q => ∃ i,xs = [.int i]∧Q (.int (if i < 0 then -i else i)) H) (kk1 kAbs):=fun vs ts F H t e p q Q m => by
 obtain ⟨a,rfl,c0⟩:=kk1_some q
 replace q:=c0
 obtain ⟨v,rfl,A,r⟩:=pairedOne p
 unfold kAbs at q
 split at q
 ·cases q; rw [r.int]; exact ⟨_,rfl,mk_scal m e (.int _)⟩
 ·cases q
def kMax2:T→T→Option T:=kI2 (fun _ _ => true) fun i j => .int (if j > i then j else i)
def kMin2:T→T→Option T:=kI2 (fun _ _ => true) fun i j => .int (if j < i then j else i)
theorem p_max2 {K:Par}:PureN K (fun xs H Q => ∃ i j,xs = [.int i,.int j]∧Q (.int (if j > i then j else i)) H) (kk2 kMax2):=fun vs ts F H t e p q Q m => by
 obtain ⟨a,b,rfl,c0⟩:=kk2_some q
 replace q:=c0
 obtain ⟨v,w,rfl,⟨A,r⟩,B,r'⟩:=pairedTwo p
 obtain ⟨i,j,rfl,rfl,_,rfl⟩:=kI2_some q
 rw [r.int,r'.int]; exact ⟨_,_,rfl,mk_scal m e (.int _)⟩
theorem p_min2 {K:Par}:PureN K (fun xs H Q => ∃ i j,xs = [.int i,.int j]∧Q (.int (if j < i then j else i)) H) (kk2 kMin2):=fun vs ts F H t e p q Q m => by
 obtain ⟨a,b,rfl,c0⟩:=kk2_some q
 replace q:=c0
 obtain ⟨v,w,rfl,⟨A,r⟩,B,r'⟩:=pairedTwo p
 obtain ⟨i,j,rfl,rfl,_,rfl⟩:=kI2_some q
 rw [r.int,r'.int]; exact ⟨_,_,rfl,mk_scal m e (.int _)⟩
def kInt1:T→Option T
 | .d (.int i) => some (.d (.int i))
 | .d (.bool k) => some (.d (.int (if k then 1 else 0)))
 | _ => none
theorem p_int1 {K:Par}:PureN K (fun xs H Q => (∃ i,xs = [.int i]∧Q (.int i) H)∨∃ k,xs = [.bl k]∧Q (.int (if k then 1 else 0)) H) (kk1 kInt1):=fun vs ts F H t e p q Q m => by
 obtain ⟨a,rfl,c0⟩:=kk1_some q
 replace q:=c0
 obtain ⟨v,rfl,A,r⟩:=pairedOne p
 unfold kInt1 at q
 split at q
 ·cases q; rw [r.int]; exact .inl ⟨_,rfl,mk_scal m e (.int _)⟩
 ·cases q; rw [r.bl]; exact .inr ⟨_,rfl,mk_scal m e (.int _)⟩
 ·cases q
def kListOf (t:T):Option T:=(seqOf t).map fun ds => .lst (ds.map T.d)
theorem p_listOf {K:Par}:PureN K (fun xs H Q => ∃ p ys,xs = [.ref p]∧(SqL K.K H p ys∨SqT K.K H p ys)∧∀ l,H l = none→Q (.ref l) (upd H l (.lst ys))) (kk1 kListOf):=fun vs ts F H t e p q Q m => by
 obtain ⟨a,rfl,c0⟩:=kk1_some q
 replace q:=c0
 obtain ⟨v,rfl,A,r⟩:=pairedOne p
 simp only [kListOf,Option.map_eq_some_iff] at q
 obtain ⟨ds,q1,rfl⟩:=q
 obtain ⟨a,ws,rfl,h,z⟩:=seqOf_at e r q1
 exact ⟨a,ws,rfl,h,mk_list m e z⟩
def kTupOf (t:T):Option T:=(seqOf t).map fun ds => .d (.tuple ds)
theorem p_tupOf {K:Par}:PureN K (fun xs H Q => ∃ p ys,xs = [.ref p]∧((SqL K.K H p ys∧∀ l,H l = none→Q (.ref l) (upd H l (.tup ys)))∨(SqT K.K H p ys∧Q (.ref p) H))) (kk1 kTupOf):=fun vs ts F H t e p q Q m => by
 obtain ⟨a,rfl,c0⟩:=kk1_some q
 replace q:=c0
 obtain ⟨v,rfl,A,r⟩:=pairedOne p
 simp only [kTupOf,Option.map_eq_some_iff] at q
 obtain ⟨ds,q1,rfl⟩:=q
 unfold seqOf at q1
 cases c:listOf a with
 | some xs =>
  rw [c] at q1; simp at q1; subst q1
  obtain ⟨b,ws,rfl,h,z⟩:=listOf_at e r c
  exact ⟨b,ws,rfl,.inl ⟨.of h,mk_tup m e z⟩⟩
 | none =>
  rw [c] at q1; simp at q1
  obtain ⟨b,ws,rfl,h,z⟩:=tupOf_at e r q1
  exact ⟨b,ws,rfl,.inr ⟨h,tupOf_fz e r q1 m⟩⟩
def asInts:List D→Option (List Int)
 | [] => some []
 | .int i :: ds => (asInts ds).map (i :: ·)
 | _ :: _ => none
theorem asInts_at {K:Par} {F:Hp}:∀ {ds:List D} {ns:List Int} {vs:List V},asInts ds = some ns→FzA K F vs ds→vs = ns.map V.int
 | [],ns,_,h,.nil => by simp [asInts] at h; subst h; rfl
 | .int i :: ds,ns,_,h,.cons r z => by
  simp only [asInts,Option.map_eq_some_iff] at h
  obtain ⟨ms,h1,rfl⟩:=h
  cases r
  rw [asInts_at h1 z]; rfl
def kSum (t:T):Option T:=(seqOf t).bind fun ds => (asInts ds).map fun ns => .d (.int ns.sum)
def rSumA (K:PySem.W.Frag):List V→Hp→VK→Prop:=fun vs H Q => rSum K vs H Q∨∃ (a:Addr) (ns:List Int),vs = [V.ref a]∧SqT K H a (ns.map V.int)∧Q (.int ns.sum) H
open PySem.Spec PyProof.Rows in
theorem cr_sumA {X:Cx} (hc:X.calm = true):CallR X (.builtin "sum") (rSumA X.K):=(cr_sum hc).or fun pins s σ H vs us Q I r h => by
 obtain ⟨a,ns,rfl,hs,q⟩:=h
 obtain ⟨its,rv,hl,hz⟩:=I.tuple hs
 rw [Vals.ref1 r]
 have hi:IntsAre its ns:=rv.ints
 obtain ⟨xs,ex⟩:=hi.allInts.items
 have hn:numsOf (intItems xs).toList = ns:=by rw [← ex]; exact hi.numsOf
 rw [nums_intItems] at hn
 rw [ex] at hl
 refine PySem.W.ktm_sumG (I.ok.hd hc) hl fun h' tk t' hk => ?_
 rw [preSum_eq,List.take_of_length_le (by simp),hn]
 exact ⟨.int ns.sum,H,I.kept (t':=tk) hk,⟨_,rfl⟩,q⟩
theorem p_sum {K:Par}:PureN K (rSumA K.K) (kk1 kSum):=fun vs ts F H t e p q Q m => by
 obtain ⟨a,rfl,c0⟩:=kk1_some q
 replace q:=c0
 obtain ⟨v,rfl,A,r⟩:=pairedOne p
 simp only [kSum,Option.bind_eq_some_iff,Option.map_eq_some_iff] at q
 obtain ⟨ds,q1,ns,q2,rfl⟩:=q
 obtain ⟨a,ws,rfl,h,z⟩:=seqOf_at e r q1
 have:=asInts_at q2 z
 subst this
 rcases h with h | h
 ·exact .inl ⟨a,ns,rfl,h,mk_scal m e (.int _)⟩
 ·exact .inr ⟨a,ns,rfl,h,mk_scal m e (.int _)⟩
def insB {α:Type} (le:α→α→Bool) (x:α):List α→List α
 | [] => [x]
 | y :: ys => if le x y = true then x :: y :: ys else y :: insB le x ys
def sortB {α:Type} (le:α→α→Bool):List α→List α
 | [] => []
 | x :: xs => insB le x (sortB le xs)
theorem insB_perm {α:Type} (le:α→α→Bool) (x:α):∀ ys:List α,(insB le x ys).Perm (x :: ys)
 | [] => List.Perm.refl _
 | y :: ys => by
  unfold insB
  split
  ·exact List.Perm.refl _
  ·exact ((insB_perm le x ys).cons y).trans (List.Perm.swap x y ys)
theorem sortB_perm {α:Type} (le:α→α→Bool):∀ xs:List α,(sortB le xs).Perm xs
 | [] => List.Perm.refl _
 | x :: xs => (insB_perm le x _).trans ((sortB_perm le xs).cons x)
theorem insB_sorted {α:Type} {le:α→α→Bool} (tr:∀ a b c,le a b = true→le b c = true→le a c = true) (to:∀ a b,le a b = false→le b a = true) (x:α):∀ ys:List α,(ys.Pairwise fun a b => le a b = true)→(insB le x ys).Pairwise fun a b => le a b = true
 | [],_ => List.pairwise_singleton _ _
 | y :: ys,h => by
  obtain ⟨h1,h2⟩:=List.pairwise_cons.mp h
  unfold insB
  split
  ·rename_i c
   refine List.pairwise_cons.mpr ⟨fun z hz => ?_,h⟩
   (rcases List.mem_cons.mp hz with e | hz)
   ·rw [e]; exact c
   ·exact tr x y z c (h1 z hz)
  ·rename_i c
   refine List.pairwise_cons.mpr ⟨fun z hz => ?_,insB_sorted tr to x ys h2⟩
   rcases List.mem_cons.mp ((insB_perm le x ys).mem_iff.mp hz) with e | hz
   ·rw [e]; exact to x y (by simpa using c)
   ·exact h1 z hz
theorem sortB_sorted {α:Type} {le:α→α→Bool} (tr:∀ a b c,le a b = true→le b c = true→le a c = true) (to:∀ a b,le a b = false→le b a = true):∀ xs:List α,(sortB le xs).Pairwise fun a b => le a b = true
 | [] => List.Pairwise.nil
 | x :: xs => insB_sorted tr to x _ (sortB_sorted tr to xs)
def sortI (ns:List Int):List Int:=sortB (fun a b => decide (a≤b)) ns
theorem sortI_perm (ns:List Int):(sortI ns).Perm ns:=sortB_perm _ _
theorem sortI_sorted (ns:List Int):(sortI ns).Pairwise (·≤·):=by
 have:=sortB_sorted (le:=fun a b:Int => decide (a≤b)) (fun a b c h1 h2 => by simp at *; omega) (fun a b h => by simp at *; omega) ns
 exact this.imp fun h => by simpa using h
def asBools:List D→Option (List Bool)
 | [] => some []
 | .bool b :: ds => (asBools ds).map (b :: ·)
 | _ :: _ => none
theorem asBools_map (bs:List Bool):asBools (bs.map PyData.bool) = some bs:=by
 induction bs with
 | nil => rfl
 | cons x r ih => simp [asBools,ih]
theorem asBools_at {K:Par} {F:Hp}:∀ {ds:List D} {bs:List Bool} {vs:List V},asBools ds = some bs→FzA K F vs ds→vs = bs.map V.bl
 | [],bs,_,h,.nil => by simp [asBools] at h; subst h; rfl
 | .bool b :: ds,bs,_,h,.cons r z => by
  simp only [asBools,Option.map_eq_some_iff] at h
  obtain ⟨ms,h1,rfl⟩:=h
  cases r
  rw [asBools_at h1 z]; rfl
def kAll (t:T):Option T:=(listOf t).bind fun ds => (asBools ds).map fun bs => .d (.bool (bs.all id))
def kAny (t:T):Option T:=(listOf t).bind fun ds => (asBools ds).map fun bs => .d (.bool (bs.any id))
theorem p_all {K:Par}:PureN K (rAll K.K) (kk1 kAll):=fun vs ts F H t e p q Q m => by
 obtain ⟨a,rfl,c0⟩:=kk1_some q
 replace q:=c0
 obtain ⟨v,rfl,A,r⟩:=pairedOne p
 simp only [kAll,Option.bind_eq_some_iff,Option.map_eq_some_iff] at q
 obtain ⟨ds,q1,bs,q2,rfl⟩:=q
 obtain ⟨a,ws,rfl,h,z⟩:=listOf_at e r q1
 have:=asBools_at q2 z
 subst this
 exact ⟨a,bs,rfl,.of h,mk_scal m e (.bl _)⟩
theorem p_any {K:Par}:PureN K (rAny K.K) (kk1 kAny):=fun vs ts F H t e p q Q m => by
 obtain ⟨a,rfl,c0⟩:=kk1_some q
 replace q:=c0
 obtain ⟨v,rfl,A,r⟩:=pairedOne p
 simp only [kAny,Option.bind_eq_some_iff,Option.map_eq_some_iff] at q
 obtain ⟨ds,q1,bs,q2,rfl⟩:=q
 obtain ⟨a,ws,rfl,h,z⟩:=listOf_at e r q1
 have:=asBools_at q2 z
 subst this
 exact ⟨a,bs,rfl,.of h,mk_scal m e (.bl _)⟩
inductive Ty | int | bool | str | list | tuple | dict | none
 deriving DecidableEq
def Ty.nm:Ty→String
 | .int => "int" | .bool => "bool" | .str => "str" | .list => "list" | .tuple => "tuple" | .dict => "dict" | .none => "NoneType"
def nonK:D→Bool
 | .none => true
 | _ => false
def tyOf:T→Option Ty
 | .d .none => some .none
 | .d (.bool _) => some .bool
 | .d (.int _) => some .int
 | .d (.str _) => some .str
 | .d (.list _) => some .list
 | .d (.tuple _) => some .tuple
 | .d (.dict ds) => if (ds.head?.map fun p => nonK p.1) = some true then none else some .dict
 | .scr _ => none
 | .lst _ => some .list
 | .tup _ => some .tuple
 | .dK _ => some .dict
 | .dT _ => some .dict
 | .ins _ _ => none
def subTy:Ty→Ty→Bool
 | .bool,.int => true
 | a,b => decide (a = b)
theorem kit_sub {K:PySem.W.Frag} (a b:Ty) (h:b≠.none):PySem.W.kitOne K (.type a.nm) (.type b.nm) = some (subTy a b):=by
 refine kit_ty ?_
 cases a <;> cases b <;> first | exact absurd rfl h | decide +kernel
theorem tyOf_at {K:Par} {F H:Hp} (e:Same F H) {v:V} {t:T} {A:List Addr} {n:Ty} (r:R K F H v t A) (h:tyOf t = some n):TyX K.K H v (.type n.nm):=by
 cases r with
 | d z =>
  cases z with
  | non => cases h; exact .base .non
  | bl b => cases h; exact .base (.bl b)
  | int i => cases h; exact .base (.int i)
  | str x => cases h; exact .base (.str x)
  | lst h1 _ => cases h; exact .base (.lst (e _ _ h1))
  | tup h1 _ => cases h; exact .base (.tup (e _ _ h1))
  | dic h1 _ _ =>
   simp only [tyOf] at h
   split at h
   ·cases h
   ·cases h; exact .base (.dK (e _ _ h1))
  | exc h1 => simp [tyOf,nonK] at h
  | exf h1 _ _ => simp [tyOf,nonK] at h
 | scr z => cases h
 | lst h1 _ _ => cases h; exact .base (.lst h1)
 | tup h1 _ => cases h; exact .base (.tup h1)
 | dK h1 _ _ _ => cases h; exact .base (.dK h1)
 | dT h1 _ _ _ => cases h; exact .base (.dT h1)
 | ins _ _ _ _ _ _ => cases h
def kIsi (c:Ty) (t:T):Option T:=if c = .none then none else (tyOf t).map fun n => .d (.bool (subTy n c))
theorem p_isi {K:Par} (c:Ty):PureN K (fun vs H Q => rIsi K.K (vs++[.ty c.nm]) H Q) (kk1 (kIsi c)):=fun vs ts F H t e p q Q m => by
 obtain ⟨a,rfl,c0⟩:=kk1_some q
 replace q:=c0
 obtain ⟨v,rfl,A,r⟩:=pairedOne p
 unfold kIsi at q
 split at q
 ·cases q
 ·rename_i hc
  simp only [Option.map_eq_some_iff] at q
  obtain ⟨n,q1,rfl⟩:=q
  exact ⟨v,.ty c.nm,.type n.nm,.type c.nm,_,rfl,.ty _,tyOf_at e r q1,kit_sub n c hc,mk_scal m e (.bl _)⟩
end Hu
namespace Hu
open PySem L2
abbrev Px (X:Cx) (cls:Str→Addr):Par:=⟨X.K,cls⟩
def gVar (i:Nat):G T:=fun ρ => match getS ρ i with
 | some (.d x) => .ok (.d x) ρ
 | some t => .ok t (ρ.set i none)
 | none => .bad
def gPk (g:G T):G T:=fun ρ => (g ρ).bind fun t ρ' => match t with
 | .d x => .ok (.d x) ρ'
 | _ => .bad
def Opd.vg:Opd→G T
 | .nm i => gVar i
 | .con _ x => fun ρ => .ok (.d x) ρ
 | .val g => g
 | .pk g => gPk g
 | .iv g => fun ρ => (g ρ).bind fun t ρ' => match t with
  | .d (.int i) => .ok (.d (.int i)) ρ'
  | _ => .bad
theorem Sim.drop {K:Par} {F H:Hp} {σ:St} {ρ:Rho} {fp:Nat→List Addr} (s:Sim K F H σ ρ fp) (i:Nat):Sim K F H σ (ρ.set i none) (fun j => if j = i then [] else fp j):=by
 refine ⟨by simpa using s.len,fun j t h => ?_,fun j k n a ha hb => ?_,fun j a h => ?_,fun j a h => ?_,s.sub⟩
 ·by_cases c:j = i
  ·subst c
   by_cases l:j < ρ.length
   ·rw [List.getElem?_set_self l] at h; cases h
   ·rw [List.getElem?_eq_none (by simpa using l)] at h; cases h
  ·rw [List.getElem?_set_ne (Ne.symm c)] at h
   simp only [if_neg c]
   exact s.sl j t h
 ·split at ha
  ·simp at ha
  ·split at hb
   ·simp at hb
   ·exact s.dj j k n a ha hb
 ·split at h
  ·simp at h
  ·exact s.ff j a h
 ·split at h
  ·simp at h
  ·exact s.mt j a h
theorem Ext.drop (F H:Hp) (fp:Nat→List Addr) (i:Nat):Ext F H fp F H (fun j => if j = i then [] else fp j) (fp i) :=
 ⟨fun _ _ h _ => h,Same.refl F,fun _ _ h => .inl h,fun a h => by
  rcases h with h | ⟨j,h⟩
  ·exact .inl ⟨i,h⟩
  ·split at h
   ·simp at h
   ·exact .inl ⟨j,h⟩⟩
theorem vg_ok {K:Par} {W:XW} (o:Opd) (f:o.fine = true) {σ:St} {H:Hp} {Q:VK} (h:tG K W o.vg σ H Q):tO K W o σ H Q:=by
 obtain ⟨ρ,F,fp,s,h⟩:=h
 cases o with
 | nm i =>
  simp only [Opd.vg,gVar] at h
  cases q:getS ρ i with
  | none => rw [q] at h; exact h.elim
  | some t =>
   obtain ⟨v,hv,r⟩:=s.sl i t (getS_some q)
   refine ⟨v,hv,?_⟩
   rw [q] at h
   have mv:∀ t,R K F H v t (fp i)→OutG K W F H σ fp Q (.ok t (ρ.set i none))→Q v H:=fun t r h =>
    h v F H _ (fp i) (s.drop i) ⟨r,fun a ha j hj => by
     split at hj
     ·simp at hj
     ·exact s.dj j i (by assumption) a hj ha,s.ff i⟩ (Ext.drop F H fp i)
   cases t with
   | d x => exact h v F H fp [] s (Tmp.frz r.fz) (Ext.refl F H fp)
   | _ => exact mv _ r h
 | con v x =>
  exact h v F H fp [] s (Tmp.frz (conOk.fz f)) (Ext.refl F H fp)
 | val g => exact ⟨ρ,F,fp,s,h⟩
 | pk g =>
  refine ⟨ρ,F,fp,s,h.bind.imp (Ext.refl F H fp) fun t ρ' _ h v F' H' fp' A s' r x => ?_⟩
  cases t with
  | d y =>
   cases r with
   | d z => exact h v F' H' fp' [] s' (Tmp.frz z) x
  | _ => exact h.elim
 | iv g =>
  refine ⟨ρ,F,fp,s,h.bind.imp (Ext.refl F H fp) fun t ρ' _ h v F' H' fp' A s' m x => ?_⟩
  cases t with
  | d y =>
   cases y with
   | int i => exact ⟨i,m.r.int,h v F' H' fp' [] s' (Tmp.frz m.r.fz) x.nil⟩
   | _ => exact h.elim
  | _ => exact h.elim
section
variable {X:Cx} {cls:Str→Addr} {W:XW} {e a b c:Expr} {pos:Pos} {oa ob oc:Opd}
abbrev DE (X:Cx) (cls:Str→Addr) (W:XW) (e:Expr) (o:Opd):Prop:=PE X e (tO (Px X cls) W o)∧o.fine = true
theorem DE.own {o:Opd} (h:DE X cls W e o):PE X e (tG (Px X cls) W o.vg):=h.1.imp fun σ H Q q => vg_ok o h.2 q
theorem DE.val {o:Opd} (h:DE X cls W e o):DE X cls W e (.val o.vg):=⟨h.own,rfl⟩
theorem de_name {i:Nat} {x:Str} (hN:X.N[i]? = some x) (hv:Vis X.env.scope x) (hd:(x == ("__debug__":Str)) = false) (hcd:(x == ("__classdict__":Str)) = false):DE X cls W (.Name x pos) (.nm i):=⟨pe_var hN hv hd hcd,rfl⟩
theorem de_int {i:Int} {j}:DE X cls W (.Constant (.int i) j pos) (.con (.int i) (.int i)):=⟨pe_int,by simp [Opd.fine,conOk]⟩
theorem de_bl {k:Bool} {j}:DE X cls W (.Constant (.bool k) j pos) (.con (.bl k) (.bool k)):=⟨pe_bl,by simp [Opd.fine,conOk]⟩
theorem de_non {j}:DE X cls W (.Constant .none j pos) (.con .non .none):=⟨pe_non,rfl⟩
theorem de_str {z:Str} {j}:DE X cls W (.Constant (.str z) j pos) (.con (.str z) (.str z)):=⟨pe_str,by simp [Opd.fine,conOk]⟩
def gP2 (k:T→T→Option T) (a b:Opd):G T:=gOs [a,b] (kP (kk2 k))
def gP1 (k:T→Option T) (a:Opd):G T:=gOs [a] (kP (kk1 k))
theorem fine2 (h1:oa.fine = true) (h2:ob.fine = true):[oa,ob].all Opd.fine = true:=by simp [h1,h2]
theorem fine1 (h1:oa.fine = true):[oa].all Opd.fine = true:=by simp [h1]
theorem de_bin {op:Operator} {r:R2} {k:T→T→Option T} (ho:OpR X (binaryOp op) r) (hk:Pure2 (Px X cls) r k) (ha:DE X cls W a oa) (hb:DE X cls W b ob):DE X cls W (.BinOp a op b pos) (.val (gP2 k oa ob)) :=
 ⟨(pe_op ho ha.1 hb.1).imp fun _ _ _ q => os_pure (r:=rr2 r) (fine2 ha.2 hb.2) (pure2 hk) q,rfl⟩
theorem de_cmp {op:CmpOp} {r:R2} {k:T→T→Option T} (ho:OpR X (compareOp op) r) (hm:behindInMarks op b = false) (hk:Pure2 (Px X cls) r k) (ha:DE X cls W a oa) (hb:DE X cls W b ob):DE X cls W (.Compare a [op] [b] pos) (.val (gP2 k oa ob)) :=
 ⟨(pe_cmpR ho ha.1 hb.1 hm).imp fun _ _ _ q => os_pure (r:=rr2 r) (fine2 ha.2 hb.2) (pure2 hk) q,rfl⟩
theorem de_un {op:UnaryOp} {r:V→Hp→VK→Prop} {k:T→Option T} (ho:UnR X (unaryOp op) r) (hk:Pure1 (Px X cls) r k) (ha:DE X cls W a oa):DE X cls W (.UnaryOp op a pos) (.val (gP1 k oa)) :=
 ⟨(pe_un ho ha.1).imp fun _ _ _ q => os_pure (r:=rr1 r) (fine1 ha.2) (pure1 hk) q,rfl⟩
def kNeg:T→Option T
 | .d (.int i) => some (.d (.int (-i)))
 | _ => none
theorem p_neg {K:Par}:Pure1 K (rU fun i => .int (-i)) kNeg:=fun x tx Ax F H t e r1 q Q m => by
 unfold kNeg at q
 split at q
 ·cases q; exact ⟨_,r1.int,mk_scal m e (.int _)⟩
 ·cases q
def kTru:T→Option Bool
 | .d .none => some false
 | .d (.bool b) => some b
 | .d (.int i) => some (i != 0)
 | .d (.str z) => if z.length≤sizeLine then some ((z.length:Int) != 0) else none
 | .d (.list ds) => some (!ds.isEmpty)
 | .d (.tuple ds) => some (!ds.isEmpty)
 | .lst ts => some (!ts.isEmpty)
 | .tup ts => some (!ts.isEmpty)
 | .dK kvs => some (!kvs.isEmpty)
 | _ => none
theorem isEmpty_len {α β:Type} {xs:List α} {ys:List β} (h:xs.length = ys.length):(!xs.isEmpty) = !ys.isEmpty:=by
 cases xs <;> cases ys <;> first | rfl | simp at h
theorem kTru_at {K:Par} {F H:Hp} (e:Same F H) {v:V} {t:T} {A:List Addr} {k:Bool} (r:R K F H v t A) (h:kTru t = some k):TruV K.K v H k:=by
 cases r with
 | d z =>
  cases z with
  | non => cases h; rfl
  | bl b => cases h; rfl
  | int i => cases h; rfl
  | str x => simp [kTru] at h; exact ⟨h.1,h.2.symm⟩
  | lst h1 h2 => cases h; exact .inl ⟨_,.of (e _ _ h1),(isEmpty_len h2.length).symm⟩
  | tup h1 h2 => cases h; exact .inr (.inl ⟨_,.of (e _ _ h1),(isEmpty_len h2.length).symm⟩)
  | dic _ _ _ => cases h
  | exc _ => cases h
  | exf _ _ _ => cases h
 | scr _ => cases h
 | lst h1 h2 _ => cases h; exact .inl ⟨_,.of h1,(isEmpty_len h2.length).symm⟩
 | tup h1 h2 => cases h; exact .inr (.inl ⟨_,.of h1,(isEmpty_len h2.length).symm⟩)
 | dK h1 h0 _ _ => cases h; exact .inr (.inr ⟨_,h1,(isEmpty_len (by have:=congrArg List.length h0; simpa using this)).symm⟩)
 | dT _ _ _ _ => cases h
 | ins _ _ _ _ _ _ => cases h
def PostB (K:Par) (F H:Hp) (σ:St) (fp:Nat→List Addr) (Q:Bool→Hp→Prop) (k:Bool) (ρ':Rho):Prop :=
 ∀ F' H' fp',Sim K F' H' σ ρ' fp'→Ext F H fp F' H' fp' []→Q k H'
def tT (K:Par) (W:XW) (g:G Bool):TT:=fun σ H Q => ∃ ρ F fp,Sim K F H σ ρ fp∧OutR K W F H σ fp (PostB K F H σ fp Q) (g ρ)
def kB (kk:List T→Option Bool):List T→G Bool:=fun ts ρ => match kk ts with
 | some t => .ok t ρ
 | none => .bad
def kkT:List T→Option Bool
 | [t] => kTru t
 | _ => none
def gTru (o:Opd):G Bool:=gOs [o] (kB kkT)
theorem gOs_run {α:Type} {K:Par} {σ:St} {os:List Opd} (f:os.all Opd.fine = true) {k:List T→G α} {P:α→Rho→Prop} {F H F0 H0:Hp} {fp fp0:Nat→List Addr} {A0:List Addr} {ρ:Rho} {Q:List V→Hp→Prop} (x0:Ext F0 H0 fp0 F H fp A0) (s:Sim K F H σ ρ fp) (o:OutR K W F0 H0 σ fp0 P (gOs os k ρ))
  (z:∀ vs xs ts ρ' F' H' fp' B,Sim K F' H' σ ρ' fp'→Ext F H fp F' H' fp' B→ArgsR K F' H' σ fp' os vs xs B→fins os xs ρ' = some ts→Paired (fun v t => ∃ A,R K F' H' v t A) vs ts→OutR K W F0 H0 σ fp0 P (k ts ρ')→Q vs H'):tOs K W os σ H Q:=by
 refine runs_ok os f x0 s o.bind fun vs xs ρ' F' H' fp' B s' x ha p => ?_
 cases q:fins os xs ρ' with
 | none => rw [q] at p; exact p.elim
 | some ts =>
  rw [q] at p
  exact z vs xs ts ρ' F' H' fp' B s' x ha q (ha.all s' q) p
theorem os_bool {K:Par} {os:List Opd} (f:os.all Opd.fine = true) {kk:List T→Option Bool} {r:List V→Hp→(Bool→Hp→Prop)→Prop} (h:∀ vs ts F H k Q,Same F H→Paired (fun v t => ∃ A,R K F H v t A) vs ts→kk ts = some k→Q k H→r vs H Q) {σ:St} {H:Hp} {Q:Bool→Hp→Prop}
  (g:tT K W (gOs os (kB kk)) σ H Q):tOs K W os σ H fun vs H1 => r vs H1 Q:=by
 obtain ⟨ρ,F,fp,s,o⟩:=g
 refine gOs_run f (Ext.refl F H fp) s o fun vs xs ts ρ' F' H' fp' B s' x _ _ ha p => ?_
 unfold kB at p
 cases q2:kk ts with
 | none => rw [q2] at p; exact p.elim
 | some t =>
  rw [q2] at p
  exact h vs ts F' H' t Q s'.sub ha q2 (p F' H' fp' s' x.nil)
abbrev DT (X:Cx) (cls:Str→Addr) (W:XW) (e:Expr) (g:G Bool):Prop:=PT X e (tT (Px X cls) W g)
def plainTest:Expr→Bool
 | .UnaryOp _ _ _ => false
 | .BoolOp _ _ _ => false
 | .IfExp _ _ _ _ => false
 | .Compare _ _ _ _ => false
 | _ => true
theorem plainTest_ok {env:Env}:∀ {e:Expr},plainTest e = true→∀ whole,isTrue e env whole = (do let v ← whole; standAt e.pos; holding [v] (truthy v)):=by
 intro e h whole
 cases e <;> first | (simp [plainTest] at h; done) | rfl
theorem dt_tru (he:plainTest e = true) (ha:DE X cls W e oa):DT X cls W e (gTru oa) :=
 (pt_truth ha.1 (plainTest_ok he)).imp fun σ H Q q => os_bool (os:=[oa]) (fine1 ha.2) (r:=fun vs H Q => match vs with | [x] => ∃ k,TruV X.K x H k∧Q k H | _ => False) (fun vs ts F H k Q e p c z => by
  cases p with
  | nil => simp [kkT] at c
  | cons r p =>
   cases p with
   | nil =>
    obtain ⟨A,r⟩:=r
    exact ⟨k,kTru_at (K:=Px X cls) e r c,z⟩
   | cons _ _ => simp [kkT] at c) q
def gTest (g:G T):G Bool:=fun ρ => (g ρ).bind fun t ρ' => match t with
 | .d (.bool b) => .ok b ρ'
 | _ => .bad
theorem test_ok {K:Par} {g:G T} {σ:St} {H:Hp} {Q:Bool→Hp→Prop} (h:tT K W (gTest g) σ H Q):tG K W g σ H fun x H' => ∃ k,x = .bl k∧Q k H':=by
 obtain ⟨ρ,F,fp,s,o⟩:=h
 refine ⟨ρ,F,fp,s,o.bind.imp (Ext.refl F H fp) fun t ρ' _ o v F' H' fp' A s' m x => ?_⟩
 cases t with
 | d y =>
  cases y with
  | bool k => exact ⟨k,m.r.bl,o F' H' fp' s' x.nil⟩
  | _ => exact o.elim
 | _ => exact o.elim
theorem dt_cmp {op:CmpOp} {r:R2} {k:T→T→Option T} (ho:OpR X (compareOp op) r) (hm:behindInMarks op b = false) (hk:Pure2 (Px X cls) r k) (ha:DE X cls W a oa) (hb:DE X cls W b ob):DT X cls W (.Compare a [op] [b] pos) (gTest (gP2 k oa ob)) :=
 (pt_cmpR ho ha.1 hb.1 hm).imp fun _ _ _ q => os_pure (r:=rr2 r) (fine2 ha.2 hb.2) (pure2 hk) (test_ok q)
def gNotB (g:G Bool):G Bool:=fun ρ => (g ρ).bind fun k ρ' => .ok (!k) ρ'
def gAndB (g h:G Bool):G Bool:=fun ρ => (g ρ).bind fun k ρ' => if k = true then h ρ' else .ok false ρ'
def gOrB (g h:G Bool):G Bool:=fun ρ => (g ρ).bind fun k ρ' => if k = true then .ok true ρ' else h ρ'
theorem dt_not {g:G Bool} (h:DT X cls W a g):DT X cls W (.UnaryOp .Not a pos) (gNotB g):=(pt_not h).imp fun σ H Q q => by
 obtain ⟨ρ,F,fp,s,o⟩:=q
 exact ⟨ρ,F,fp,s,o.bind.imp (Ext.refl F H fp) fun k ρ' _ o F' H' fp' s' x => o F' H' fp' s' x⟩
theorem PostB.shift {K:Par} {F H F1 H1:Hp} {σ:St} {fp fp1:Nat→List Addr} {A:List Addr} {Q:Bool→Hp→Prop} {k:Bool} {ρ':Rho} (h:PostB K F H σ fp Q k ρ') (x:Ext F H fp F1 H1 fp1 A):PostB K F1 H1 σ fp1 Q k ρ':=fun F' H' fp' s y => h F' H' fp' s (x.trans y)
theorem OutR.goB {K:Par} {F H F1 H1:Hp} {σ:St} {fp fp1:Nat→List Addr} {A:List Addr} {Q:Bool→Hp→Prop} {o:Out Bool} (h:OutR K W F H σ fp (PostB K F H σ fp Q) o) (x:Ext F H fp F1 H1 fp1 A):OutR K W F1 H1 σ fp1 (PostB K F1 H1 σ fp1 Q) o :=
 h.imp x fun _ _ _ p => p.shift x
abbrev DW (X:Cx) (cls:Str→Addr) (W:XW) (e:Expr) (g:G Bool):Prop:=PW X e (tT (Px X cls) W g)
theorem _root_.L2.PW.imp {X:Cx} {e:Expr} {t t':TT} (h:PW X e t) (i:∀ σ H Q,t' σ H Q→t σ H Q):PW X e t':=⟨fun wh pins s σ H Q I q => h.run wh pins s σ H Q I (i σ H Q q)⟩
variable {rest:List Expr} {g g':G Bool}
theorem dw_and1 (h:DT X cls W a g):DW X cls W (.BoolOp .And [a] pos) g:=pw_and1 h
theorem dw_or1 (h:DT X cls W a g):DW X cls W (.BoolOp .Or [a] pos) g:=pw_or1 h
theorem dw_and (h:DT X cls W a g) (h':DW X cls W (.BoolOp .And (b :: rest) pos) g'):DW X cls W (.BoolOp .And (a :: b :: rest) pos) (gAndB g g'):=(pw_and h h').imp fun σ H Q q => by
 obtain ⟨ρ,F,fp,s,o⟩:=q
 refine ⟨ρ,F,fp,s,o.bind.imp (Ext.refl F H fp) fun k ρ' _ o F' H' fp' s' x => ?_⟩
 cases k with
 | true => rw [if_pos rfl] at o ⊢; exact ⟨ρ',F',fp',s',o.goB x⟩
 | false => rw [if_neg (by decide)] at o ⊢; exact o F' H' fp' s' x
theorem dw_or (h:DT X cls W a g) (h':DW X cls W (.BoolOp .Or (b :: rest) pos) g'):DW X cls W (.BoolOp .Or (a :: b :: rest) pos) (gOrB g g'):=(pw_or h h').imp fun σ H Q q => by
 obtain ⟨ρ,F,fp,s,o⟩:=q
 refine ⟨ρ,F,fp,s,o.bind.imp (Ext.refl F H fp) fun k ρ' _ o F' H' fp' s' x => ?_⟩
 cases k with
 | true => rw [if_pos rfl] at o ⊢; exact o F' H' fp' s' x
 | false => rw [if_neg (by decide)] at o ⊢; exact ⟨ρ',F',fp',s',o.goB x⟩
def kNot:T→Option T
 | .d (.bool k) => some (.d (.bool (!k)))
 | _ => none
theorem de_not (ha:DE X cls W a oa):DE X cls W (.UnaryOp .Not a pos) (.val (gP1 kNot oa)) :=
 ⟨(pe_not ha.1).imp fun _ _ _ q => os_pure (os:=[oa]) (r:=rr1 fun x H Q => ∃ c,x = .bl c∧Q (.bl (!c)) H) (fine1 ha.2) (pure1 fun x tx Ax F H t e r1 q Q m => by
  unfold kNot at q
  split at q
  ·cases q; exact ⟨_,r1.bl,mk_scal m e (.bl _)⟩
  ·cases q) q,rfl⟩
def gAndV (g:G T) (h:G T):G T:=fun ρ => (gTest g ρ).bind fun k ρ' => if k = true then h ρ' else .ok (.d (.bool false)) ρ'
def gOrV (g:G T) (h:G T):G T:=fun ρ => (gTest g ρ).bind fun k ρ' => if k = true then .ok (.d (.bool true)) ρ' else h ρ'
theorem Post.shift {K:Par} {F H F1 H1:Hp} {σ:St} {fp fp1:Nat→List Addr} {A:List Addr} {Q:VK} {t:T} {ρ':Rho} (h:Post K F H σ fp Q t ρ') (x:Ext F H fp F1 H1 fp1 A):Post K F1 H1 σ fp1 Q t ρ':=fun v F' H' fp' B s m y => h v F' H' fp' B s m (x.trans y)
theorem OutR.goG {K:Par} {F H F1 H1:Hp} {σ:St} {fp fp1:Nat→List Addr} {A:List Addr} {Q:VK} {o:Out T} (h:OutG K W F H σ fp Q o) (x:Ext F H fp F1 H1 fp1 A):OutG K W F1 H1 σ fp1 Q o :=
 h.imp x fun _ _ _ p => p.shift x
theorem gTest_bind {K:Par} {F H:Hp} {σ:St} {fp:Nat→List Addr} {α:Type} {P:α→Rho→Prop} {g:G T} {ρ:Rho} {f:Bool→Rho→Out α} (o:OutR K W F H σ fp P ((gTest g ρ).bind f)):OutR K W F H σ fp (fun t ρ' => ∃ k,t = .d (.bool k)∧OutR K W F H σ fp P (f k ρ')) (g ρ):=by
 unfold gTest at o
 cases q:g ρ with
 | ok t ρ' =>
  rw [q] at o
  cases t with
  | d y =>
   cases y with
   | bool k => exact ⟨k,rfl,o⟩
   | _ => exact o.elim
  | _ => exact o.elim
 | ex c u ρ' => rw [q] at o; exact o
 | bad => rw [q] at o; exact o
theorem de_and (ha:DE X cls W a oa) (hb:DE X cls W (.BoolOp .And (b :: rest) pos) ob):DE X cls W (.BoolOp .And (a :: b :: rest) pos) (.val (gAndV oa.vg ob.vg)) :=
 ⟨(pe_and ha.own hb.own).imp fun σ H Q q => by
  obtain ⟨ρ,F,fp,s,o⟩:=q
  refine ⟨ρ,F,fp,s,(gTest_bind o).imp (Ext.refl F H fp) fun t ρ' _ o v F' H' fp' A s' m x => ?_⟩
  obtain ⟨k,rfl,o⟩:=o
  refine ⟨k,m.r.bl,?_⟩
  cases k with
  | true => rw [if_pos rfl] at o ⊢; exact ⟨ρ',F',fp',s',o.goG x⟩
  | false => rw [if_neg (by decide)] at o ⊢; exact o _ F' H' fp' [] s' (Tmp.frz (.bl _)) x.nil,rfl⟩
theorem de_one {op} (ha:DE X cls W a oa):DE X cls W (.BoolOp op [a] pos) (.val oa.vg):=⟨pe_one ha.own,rfl⟩
def gIf (t:G Bool) (a b:G T):G T:=fun ρ => (t ρ).bind fun k ρ' => if k = true then a ρ' else b ρ'
theorem de_if {g:G Bool} (hc:DT X cls W c g) (ha:DE X cls W a oa) (hb:DE X cls W b ob):DE X cls W (.IfExp c a b pos) (.val (gIf g oa.vg ob.vg)) :=
 ⟨(pe_ifExp hc ha.own hb.own).imp fun σ H Q q => by
  obtain ⟨ρ,F,fp,s,o⟩:=q
  refine ⟨ρ,F,fp,s,o.bind.imp (Ext.refl F H fp) fun k ρ' _ o F' H' fp' s' x => ?_⟩
  cases k with
  | true => rw [if_pos rfl] at o ⊢; exact ⟨ρ',F',fp',s',o.goG x⟩
  | false => rw [if_neg (by decide)] at o ⊢; exact ⟨ρ',F',fp',s',o.goG x⟩,rfl⟩
end
end Hu
namespace Hu
open PySem L2
def isStar:Expr→Bool
 | .Starred _ _ => true
 | _ => false
theorem star_cons {e:Expr} {es:List Expr} {env:Env} (h:isStar e = false):starEach (e :: es) env = (false,eval e env) :: starEach es env:=by
 cases e <;> first | rfl | simp [isStar] at h
def anyStar (es:List Expr):Bool:=es.any isStar
theorem star_none {env:Env} {pos:Pos}:∀ {es:List Expr},anyStar es = false→(backTo pos (starEach es env)).any (·.1) = false
 | [],_ => rfl
 | e :: es,h => by
  simp only [anyStar,List.any_cons,Bool.or_eq_false_iff] at h
  rw [star_cons h.1]
  have:=star_none (env:=env) (pos:=pos) (es:=es) h.2
  simpa [backTo] using this
section
variable {X:Cx} {cls:Str→Addr} {W:XW} {e a b c:Expr} {es:List Expr} {os:List Opd} {pos:Pos} {oa ob oc:Opd}
inductive DAs (X:Cx) (cls:Str→Addr) (W:XW):List Expr→List Opd→Prop
 | nil:DAs X cls W [] []
 | cons {e o es os}:isStar e = false→DE X cls W e o→DAs X cls W es os→DAs X cls W (e :: es) (o :: os)
theorem DAs.pa:∀ {es:List Expr} {os:List Opd},DAs X cls W es os→PA X es (tOs (Px X cls) W os)
 | _,_,.nil => pa_nil
 | _,_,.cons h d r => pa_cons d.1 r.pa (star_cons h)
theorem DAs.fine:∀ {es:List Expr} {os:List Opd},DAs X cls W es os→os.all Opd.fine = true
 | _,_,.nil => rfl
 | _,_,.cons _ d r => by simp [d.2,r.fine]
theorem DAs.star:∀ {es:List Expr} {os:List Opd},DAs X cls W es os→anyStar es = false
 | _,_,.nil => rfl
 | _,_,.cons h _ r => by
  have:=r.star
  simp only [anyStar] at this ⊢
  simp [h,this]
theorem DAs.own:∀ {es:List Expr} {os:List Opd},DAs X cls W es os→DAs X cls W es (os.map fun o => .val o.vg)
 | _,_,.nil => .nil
 | _,_,.cons h d r => .cons h d.val r.own
theorem ArgsR.vals {K:Par} {F H:Hp} {σ:St} {fp:Nat→List Addr} {ρ:Rho}:∀ {gs:List (G T)} {vs:List V} {xs:List (Option T)} {B:List Addr} {ts:List T},ArgsR K F H σ fp (gs.map Opd.val) vs xs B→fins (gs.map Opd.val) xs ρ = some ts →
  RA K F H vs ts B∧(∀ a,a∈B→∀ i,a∉fp i)∧∀ a,a∈B→F a = none
 | [],_,_,_,ts,h,q => by
  cases h
  simp only [List.map_nil,fins] at q
  cases q
  exact ⟨.nil,fun a z => absurd z (by simp),fun a z => absurd z (by simp)⟩
 | g :: gs,_,_,_,ts,h,q => by
  rw [List.map_cons] at h q
  cases h with
  | @val _ t A _ v vs xs B m n ha =>
   simp only [fins] at q
   cases q2:fins (gs.map Opd.val) xs ρ with
   | none => rw [q2] at q; simp at q
   | some us =>
    rw [q2] at q; simp at q; subst q
    obtain ⟨r,d,f⟩:=ArgsR.vals ha q2
    refine ⟨.cons m.r r n,fun a z i => ?_,fun a z => ?_⟩
    ·rcases List.mem_append.mp z with z | z
     ·exact m.dj a z i
     ·exact d a z i
    ·rcases List.mem_append.mp z with z | z
     ·exact m.ff a z
     ·exact f a z
def mkTup (ts:List T):T:=match asDs ts with
 | some ds => .d (.tuple ds)
 | none => .tup ts
def kLst:List T→G T:=fun ts ρ => if ts.length≤sizeLine then .ok (.lst ts) ρ else .bad
def kTup:List T→G T:=fun ts ρ => if ts.length≤sizeLine then .ok (mkTup ts) ρ else .bad
def gLst (os:List Opd):G T:=gOs (os.map fun o => .val o.vg) kLst
def gTup (os:List Opd):G T:=gOs (os.map fun o => .val o.vg) kTup
theorem vals_map (os:List Opd):(os.map fun o => Opd.val o.vg) = (os.map Opd.vg).map Opd.val:=by simp
theorem Sim.laid {K:Par} {F H:Hp} {σ:St} {ρ:Rho} {fp:Nat→List Addr} {p:Addr} {o:HO} (s:Sim K F H σ ρ fp) (n:H p = none):Sim K F (upd H p o) σ ρ fp :=
 s.grow (same_upd n) (Same.refl F) (s.sub.trans (same_upd n)) fun _ _ h => .inl h
theorem Ext.laid {F H:Hp} {fp:Nat→List Addr} {p:Addr} {o:HO} {A:List Addr} (n:H p = none) (hA:∀ a,a∈A→H a = none):Ext F H fp F (upd H p o) fp A :=
 Ext.grow (same_upd n) (Same.refl F) (fun _ _ h => .inl h) hA
theorem R.laid {K:Par} {F H:Hp} {p:Addr} {o:HO} {v:V} {t:T} {A:List Addr} (r:R K F H v t A) (n:H p = none):R K F (upd H p o) v t A :=
 r.frame (Same.refl F) (tupSub_of (same_upd n)) fun a h => by
  obtain ⟨u,e,_⟩:=r.live a h
  rw [upd_ne (ne_of_none e n)]
theorem RA.laid {K:Par} {F H:Hp} {p:Addr} {o:HO} {vs:List V} {ts:List T} {A:List Addr} (r:RA K F H vs ts A) (n:H p = none):RA K F (upd H p o) vs ts A :=
 r.frame (Same.refl F) (tupSub_of (same_upd n)) fun a h => by
  obtain ⟨u,e,_⟩:=r.live a h
  rw [upd_ne (ne_of_none e n)]
theorem live_ne {H:Hp} {p:Addr} {A:List Addr} (l:Live H A) (n:H p = none):p∉A:=fun h => by
 obtain ⟨o,e,_⟩:=l p h
 rw [n] at e; cases e
theorem de_lst (h:DAs X cls W es os):DE X cls W (.List es pos) (.val (gLst os)) :=
 ⟨(pe_lst h.own.pa).imp fun σ H Q q => by
  obtain ⟨ρ,F,fp,s,o⟩:=q
  refine gOs_run h.own.fine (Ext.refl F H fp) s o fun vs xs ts ρ' F' H' fp' B s' x ha q _ p => ?_
  rw [vals_map] at ha q
  obtain ⟨r,dj,ff⟩:=ha.vals q
  unfold kLst at p
  split at p
  ·rename_i hz
   refine ⟨by rw [r.length]; exact hz,fun p' n => ?_⟩
   have pn:p'∉B:=live_ne r.live n
   have x2:Ext F H fp F' (upd H' p' (.lst vs)) fp' [p']:=x.trans (Ext.laid n (A:=[p']) (by simpa using n))
   refine p _ F' _ fp' (p' :: B) (s'.laid n) ⟨.lst upd_same (r.laid n) pn,fun a z i w => ?_,fun a z => ?_⟩ (x2.more fun a z => ?_)
   ·rcases List.mem_cons.mp z with rfl | z
    ·exact live_ne (s'.mt i) n w
    ·exact dj a z i w
   ·rcases List.mem_cons.mp z with rfl | z
    ·exact s'.sub.free n
    ·exact ff a z
   ·rcases List.mem_cons.mp z with rfl | z
    ·exact .inl (by simp)
    ·exact .inr (x.own a (.inl z))
  ·exact p.elim,rfl⟩
theorem mkTup_d {ts:List T} {ds:List D} (h:asDs ts = some ds):mkTup ts = .d (.tuple ds):=by simp [mkTup,h]
theorem mkTup_t {ts:List T} (h:asDs ts = none):mkTup ts = .tup ts:=by simp [mkTup,h]
theorem de_tup (h:DAs X cls W es os) {x1}:DE X cls W (.Tuple es x1 pos) (.val (gTup os)) :=
 ⟨(pe_tup h.own.pa).imp fun σ H Q q => by
  obtain ⟨ρ,F,fp,s,o⟩:=q
  refine gOs_run h.own.fine (Ext.refl F H fp) s o fun vs xs ts ρ' F' H' fp' B s' x ha q _ p => ?_
  rw [vals_map] at ha q
  obtain ⟨r,dj,ff⟩:=ha.vals q
  unfold kTup at p
  split at p
  ·rename_i hz
   refine ⟨by rw [r.length]; exact hz,?_⟩
   cases c:asDs ts with
   | some ds =>
    rw [mkTup_d c] at p
    have e:=asDs_some c
    subst e
    exact mk_tup (Post.mk s' x p) s'.sub r.fz
   | none =>
    rw [mkTup_t c] at p
    intro p' n
    refine p _ F' _ fp' B (s'.laid n) ⟨.tup upd_same (r.laid n),dj,ff⟩ ((x.trans (Ext.laid n (A:=[]) (by simp))).more fun a z => .inr (x.own a (.inl z)))
  ·exact p.elim,rfl⟩
theorem RA.get {K:Par} {F H:Hp}:∀ {vs:List V} {ts:List T} {A:List Addr} {j:Nat} {t:T},RA K F H vs ts A→ts[j]? = some t→∃ v B,vs[j]? = some v∧R K F H v t B∧∀ a,a∈B→a∈A
 | _,_,_,_,_,.nil,h => by simp at h
 | _,_,_,0,_,.cons h1 _ _,h => by
  simp at h; subst h
  exact ⟨_,_,by simp,h1,fun a z => List.mem_append_left _ z⟩
 | _,_,_,j + 1,_,.cons _ h2 _,h => by
  obtain ⟨v,B,e,r,i⟩:=RA.get (j:=j) h2 (by simpa using h)
  exact ⟨v,B,by simpa using e,r,fun a z => List.mem_append_right _ (i a z)⟩
theorem atI_map {α β:Type} {xs:List α} {ys:List β} {i:Int} {x:α} (hl:ys.length = xs.length) (h:atI xs i = some x):∃ j:Nat,xs[j]? = some x∧∀ y,ys[j]? = some y→atI ys i = some y:=by
 unfold atI at h
 cases c:ixN xs.length i with
 | none => rw [c] at h; simp at h
 | some j =>
  rw [c] at h
  refine ⟨j,by simpa using h,fun y hy => ?_⟩
  unfold atI
  rw [hl,c]; simpa using hy
def kIx:T→T→Option T
 | .d (.list ds),.d (.int i) => (atI ds i).map T.d
 | .d (.tuple ds),.d (.int i) => (atI ds i).map T.d
 | .lst ts,.d (.int i) => atI ts i
 | .tup ts,.d (.int i) => atI ts i
 | .scr ns,.d (.int i) => (atI ns i).map fun n => .d (.int n)
 | _,_ => none
def IxK (K:Par) (r:R2) (k:T→T→Option T):Prop:=∀ {F H:Hp},Same F H→∀ {x y:V} {tx ty t:T} {Ax Ay:List Addr},R K F H x tx Ax→R K F H y ty Ay→k tx ty = some t→∃ v B,R K F H v t B∧(∀ a,a∈B→a∈Ax)∧∀ Q:VK,Q v H→r x y H Q
theorem kIx_at {K:Par} {F H:Hp} (e:Same F H) {x y:V} {tx ty t:T} {Ax Ay:List Addr} (r1:R K F H x tx Ax) (r2:R K F H y ty Ay) (q:kIx tx ty = some t) :
  ∃ v B,R K F H v t B∧(∀ a,a∈B→a∈Ax)∧∀ Q:VK,Q v H→rIx K.K x y H Q:=by
 unfold kIx at q
 split at q
 ·rename_i ds i
  simp only [Option.map_eq_some_iff] at q
  obtain ⟨z,q,rfl⟩:=q
  cases r1 with
  | d h =>
   cases h with
   | lst h1 h2 =>
    obtain ⟨j,hj,g⟩:=atI_map h2.length q
    obtain ⟨v,hv,fz⟩:=h2.get hj
    exact ⟨v,[],.d fz,fun a z => absurd z (by simp),fun Q z => .inl ⟨_,_,i,v,rfl,r2.int,.of (e _ _ h1),g v hv,z⟩⟩
 ·rename_i ds i
  simp only [Option.map_eq_some_iff] at q
  obtain ⟨z,q,rfl⟩:=q
  cases r1 with
  | d h =>
   cases h with
   | tup h1 h2 =>
    obtain ⟨j,hj,g⟩:=atI_map h2.length q
    obtain ⟨v,hv,fz⟩:=h2.get hj
    exact ⟨v,[],.d fz,fun a z => absurd z (by simp),fun Q z => .inr (.inl ⟨_,_,i,v,rfl,r2.int,.of (e _ _ h1),g v hv,z⟩)⟩
 ·rename_i ts i
  cases r1 with
  | lst h1 h2 _ =>
   obtain ⟨j,hj,g⟩:=atI_map h2.length q
   obtain ⟨v,B,hv,r,sb⟩:=h2.get hj
   exact ⟨v,B,r,fun a z => List.mem_cons_of_mem _ (sb a z),fun Q z => .inl ⟨_,_,i,v,rfl,r2.int,.of h1,g v hv,z⟩⟩
 ·rename_i ts i
  cases r1 with
  | tup h1 h2 =>
   obtain ⟨j,hj,g⟩:=atI_map h2.length q
   obtain ⟨v,B,hv,r,sb⟩:=h2.get hj
   exact ⟨v,B,r,sb,fun Q z => .inr (.inl ⟨_,_,i,v,rfl,r2.int,.of h1,g v hv,z⟩)⟩
 ·rename_i ns i
  simp only [Option.map_eq_some_iff] at q
  obtain ⟨n,q,rfl⟩:=q
  cases r1 with
  | scr h1 =>
   obtain ⟨j,hj,g⟩:=atI_map (ys:=ns.map V.int) (by simp) q
   exact ⟨.int n,[],.d (.int n),fun a z => absurd z (by simp),fun Q z => .inl ⟨_,_,i,.int n,rfl,r2.int,sqL_on e h1,g _ (by simp [hj]),z⟩⟩
 ·cases q
def isSlice:Expr→Bool
 | .Slice _ _ _ _ => true
 | _ => false
theorem plainIx_ok {b:Expr} (h:isSlice b = false):PlainIx b:=fun o i => by
 cases b <;> first | rfl | simp [isSlice] at h
variable {r:R2} {kx:T→T→Option T}
def gIx (k:T→T→Option T) (a b:Opd):G T:=gOs [a,b] (kP (kk2 k))
theorem ix_peek {K:Par} (hk:IxK K r kx) (f:[oa,ob].all Opd.fine = true) {σ:St} {H:Hp} {Q:VK} (h:tP K W (gIx kx oa ob) σ H Q):tOs K W [oa,ob] σ H fun vs H1 => rr2 r vs H1 Q:=by
 obtain ⟨ρ,F,fp,s,o⟩:=h
 refine gOs_run f (Ext.refl F H fp) s o fun vs xs ts ρ' F' H' fp' B s' x _ _ ha p => ?_
 unfold kP at p
 cases q:kk2 kx ts with
 | none => rw [q] at p; exact p.elim
 | some t =>
  rw [q] at p
  obtain ⟨a,b,rfl,c⟩:=kk2_some q
  obtain ⟨v,w,rfl,⟨A,r⟩,A',r'⟩:=pairedTwo ha
  obtain ⟨u,C,ru,_,g⟩:=hk s'.sub r r' c
  exact g Q (p u F' H' fp' C s' ru x.nil)
theorem ix_own {K:Par} {g:G T} (hk:IxK K r kx) (f:ob.fine = true) {σ:St} {H:Hp} {Q:VK} (h:tG K W (gIx kx (.val g) ob) σ H Q):tOs K W [.val g,ob] σ H fun vs H1 => rr2 r vs H1 Q:=by
 obtain ⟨ρ,F,fp,s,o⟩:=h
 refine gOs_run (fine2 rfl f) (Ext.refl F H fp) s o fun vs xs ts ρ' F' H' fp' B s' x ar fi ha p => ?_
 unfold kP at p
 cases q:kk2 kx ts with
 | none => rw [q] at p; exact p.elim
 | some t =>
  rw [q] at p
  obtain ⟨a,b,rfl,c⟩:=kk2_some q
  cases ar with
  | @val _ t0 A _ v vs xs B m n ar =>
   have e0:t0 = a:=by
    simp only [fins] at fi
    split at fi
    ·simp at fi; exact fi.1
    ·cases fi
   subst e0
   obtain ⟨v',w,e,⟨A1,r⟩,A',r'⟩:=pairedTwo ha
   obtain ⟨rfl,rfl⟩:=by simpa using e
   obtain ⟨u,C,ru,sb,g⟩:=hk s'.sub m.r r' c
   exact g Q (p u F' H' fp' C s' ⟨ru,fun a z i => m.dj a (sb a z) i,fun a z => m.ff a (sb a z)⟩ (x.more fun a z => .inl (List.mem_append_left _ (sb a z))))
def oIx (k:T→T→Option T):Opd→Opd→Opd
 | .val g,b => .val (gIx k (.val g) b)
 | a,b => .pk (gIx k a b)
theorem de_ixG (hr:IxR X r) (hk:IxK (Px X cls) r kx) (ha:DE X cls W a oa) (hb:DE X cls W b ob) (hs:isSlice b = false):DE X cls W (.Subscript a b pos) (oIx kx oa ob):=by
 have base:=pe_ix hr ha.1 hb.1 (plainIx_ok hs) (pos:=pos)
 have pk:PE X (.Subscript a b pos) (tP (Px X cls) W (gIx kx oa ob)):=base.imp fun σ H Q q => ix_peek hk (fine2 ha.2 hb.2) q
 cases oa with
 | val g => exact ⟨base.imp fun σ H Q q => ix_own hk hb.2 q,rfl⟩
 | nm i => exact ⟨pk,rfl⟩
 | con v x => exact ⟨pk,rfl⟩
 | pk g => exact ⟨pk,rfl⟩
 | iv g => exact ⟨pk,rfl⟩
def rSlice (K:PySem.W.Frag):V→Option Int→Option Int→Hp→VK→Prop:=fun x lo hi H Q => rSlL K x lo hi H Q∨rSlA K x lo hi H Q
theorem sl_any:SlR X (rSlice X.K):=sl_list.or sl_tupA
def cutD (xs:List D) (lo hi:Option Int):List D:=(xs.drop (HT.sIx xs.length 0 lo)).take (HT.sIx xs.length xs.length hi - HT.sIx xs.length 0 lo)
theorem FzA.cut {K:Par} {F:Hp} {vs:List V} {ds:List D} (h:FzA K F vs ds) (lo hi:Option Int):FzA K F (cutV vs lo hi) (cutD ds lo hi):=by
 unfold cutV cutD
 rw [h.length]
 exact (h.drop _).take _
def kCut (t:T) (lo hi:Option Int):Option T:=match listOf t with
 | some ds => some (.lst ((cutD ds lo hi).map T.d))
 | none => (tupOf t).map fun ds => .d (.tuple (cutD ds lo hi))
theorem kCut_at {K:Par} {F H:Hp} (e:Same F H) {x:V} {tx t:T} {A:List Addr} {lo hi:Option Int} (r:R K F H x tx A) (q:kCut tx lo hi = some t) (Q:VK) (m:Mk K F H t Q):rSlice K.K x lo hi H Q:=by
 unfold kCut at q
 split at q
 ·rename_i ds h
  cases q
  obtain ⟨a,vs,rfl,ha,fz⟩:=listOf_at e r h
  exact .inl ⟨a,vs,rfl,.of ha,mk_list m e (fz.cut lo hi)⟩
 ·simp only [Option.map_eq_some_iff] at q
  obtain ⟨ds,q,rfl⟩:=q
  obtain ⟨a,vs,rfl,ha,fz⟩:=tupOf_at e r q
  refine .inr ⟨a,vs,rfl,ha,fun hw => ?_,fun _ => mk_tup m e (fz.cut lo hi)⟩
  refine tupOf_fz e r q ?_
  have:cutD ds lo hi = ds:=by
   unfold cutD
   rw [← fz.length,hw.1,hw.2,Nat.sub_zero,List.drop_zero,fz.length,List.take_length]
  rw [this] at m; exact m
def kk3 (k:T→Option Int→Option Int→Option T):List T→Option T
 | [t,.d (.int i),.d (.int j)] => k t (some i) (some j)
 | _ => none
def kk3l (k:T→Option Int→Option Int→Option T):List T→Option T
 | [t,.d (.int i)] => k t (some i) none
 | _ => none
def kk3u (k:T→Option Int→Option Int→Option T):List T→Option T
 | [t,.d (.int j)] => k t none (some j)
 | _ => none
def kk3n (k:T→Option Int→Option Int→Option T):List T→Option T
 | [t] => k t none none
 | _ => none
theorem p_cut3 {K:Par}:PureN K (fun vs H Q => match vs with | [x,.int i,.int j] => rSlice K.K x (some i) (some j) H Q | _ => False) (kk3 kCut):=fun vs ts F H t e p q Q m => by
 unfold kk3 at q
 split at q
 ·cases p with
  | cons r1 p =>
   obtain ⟨v,w,rfl,⟨A,r⟩,B,r'⟩:=pairedTwo p
   obtain ⟨C,r1⟩:=r1
   rw [r.int,r'.int]
   exact kCut_at e r1 q Q m
 ·cases q
theorem p_cutl {K:Par}:PureN K (fun vs H Q => match vs with | [x,.int i] => rSlice K.K x (some i) none H Q | _ => False) (kk3l kCut):=fun vs ts F H t e p q Q m => by
 unfold kk3l at q
 split at q
 ·obtain ⟨v,w,rfl,⟨A,r⟩,B,r'⟩:=pairedTwo p
  rw [r'.int]
  exact kCut_at e r q Q m
 ·cases q
theorem p_cutu {K:Par}:PureN K (fun vs H Q => match vs with | [x,.int i] => rSlice K.K x none (some i) H Q | _ => False) (kk3u kCut):=fun vs ts F H t e p q Q m => by
 unfold kk3u at q
 split at q
 ·obtain ⟨v,w,rfl,⟨A,r⟩,B,r'⟩:=pairedTwo p
  rw [r'.int]
  exact kCut_at e r q Q m
 ·cases q
variable {p2:Pos}
theorem de_cut3 (ha:DE X cls W a oa) (hb:DE X cls W b ob) (hc:DE X cls W c oc):DE X cls W (.Subscript a (.Slice (some b) (some c) none p2) pos) (.val (gOs [oa,.iv ob.vg,.iv oc.vg] (kP (kk3 kCut)))) :=
 ⟨(pe_slice sl_any ha.1 (po_some hb.own) (po_some hc.own)).imp fun σ H Q q => by
  have z:=os_pure (os:=[oa,.iv ob.vg,.iv oc.vg]) (by rw [List.all_cons,ha.2]; rfl) (p_cut3 (K:=Px X cls)) q
  refine tO_mono z fun x H1 z => ?_
  refine tO_mono (o:=.val ob.vg) z fun y H2 z => ?_
  obtain ⟨i,rfl,z⟩:=z
  refine ⟨i,rfl,tO_mono (o:=.val oc.vg) z fun w H3 z => ?_⟩
  obtain ⟨j,rfl,z⟩:=z
  exact ⟨j,rfl,z⟩,rfl⟩
theorem de_cutl (ha:DE X cls W a oa) (hb:DE X cls W b ob):DE X cls W (.Subscript a (.Slice (some b) none none p2) pos) (.val (gOs [oa,.iv ob.vg] (kP (kk3l kCut)))) :=
 ⟨(pe_slice sl_any ha.1 (po_some hb.own) po_none).imp fun σ H Q q => by
  have z:=os_pure (os:=[oa,.iv ob.vg]) (by rw [List.all_cons,ha.2]; rfl) (p_cutl (K:=Px X cls)) q
  refine tO_mono z fun x H1 z => ?_
  refine tO_mono (o:=.val ob.vg) z fun y H2 z => ?_
  obtain ⟨i,rfl,z⟩:=z
  exact ⟨i,rfl,z⟩,rfl⟩
theorem de_cutu (ha:DE X cls W a oa) (hb:DE X cls W b ob):DE X cls W (.Subscript a (.Slice none (some b) none p2) pos) (.val (gOs [oa,.iv ob.vg] (kP (kk3u kCut)))) :=
 ⟨(pe_slice sl_any ha.1 po_none (po_some hb.own)).imp fun σ H Q q => by
  have z:=os_pure (os:=[oa,.iv ob.vg]) (by rw [List.all_cons,ha.2]; rfl) (p_cutu (K:=Px X cls)) q
  refine tO_mono z fun x H1 z => ?_
  refine tO_mono (o:=.val ob.vg) z fun y H2 z => ?_
  obtain ⟨i,rfl,z⟩:=z
  exact ⟨i,rfl,z⟩,rfl⟩
variable {x:Str} {p:Pos}
def gCall (kk:List T→Option T) (os:List Opd):G T:=gOs os (kP kk)
theorem de_call {id:String} {r:List V→Hp→VK→Prop} {kk:List T→Option T} (hc:CallR X (.builtin id) r) (hk:PureN (Px X cls) r kk) (hg:Gl X x) (hm:X.mg x = none) (hv:bootBuiltins x = some (.builtin id)) (h:DAs X cls W (e :: es) os)
  (hn:x≠"__name__") (hdb:(x == ("__debug__":Str)) = false):DE X cls W (.Call (.Name x p) (e :: es) [] pos) (.val (gCall kk os)):=by
 have st:=h.star
 cases h with
 | cons h0 d r' =>
  refine ⟨(pe_callB hc hg hm hv (DAs.cons h0 d r').pa hn hdb (star_cons h0) ?_).imp fun σ H Q q => os_pure (DAs.cons h0 d r').fine hk q,rfl⟩
  simp only [anyStar,List.any_cons,Bool.or_eq_false_iff] at st
  exact star_none st.2
theorem de_callT {id:String} {r:List V→Hp→VK→Prop} {kk:List T→Option T} (hc:CallR X (.type id) r) (hk:PureN (Px X cls) r kk) (hg:Gl X x) (hm:X.mg x = none) (hv:bootBuiltins x = some (.type id)) (h:DAs X cls W (e :: es) os)
  (hn:x≠"__name__") (hdb:(x == ("__debug__":Str)) = false):DE X cls W (.Call (.Name x p) (e :: es) [] pos) (.val (gCall kk os)):=by
 have st:=h.star
 cases h with
 | cons h0 d r' =>
  refine ⟨(pe_callTy hc hg hm hv (DAs.cons h0 d r').pa hn hdb (star_cons h0) ?_).imp fun σ H Q q => os_pure (DAs.cons h0 d r').fine hk q,rfl⟩
  simp only [anyStar,List.any_cons,Bool.or_eq_false_iff] at st
  exact star_none st.2
theorem de_isi {y:Str} {p3:Pos} (cl:Ty) (hg:Gl X "isinstance") (hm:X.mg "isinstance" = none) (hgy:Gl X y) (hmy:X.mg y = none) (hvy:bootBuiltins y = some (.type cl.nm)) (hny:y≠"__name__") (hdy:(y == ("__debug__":Str)) = false) (hs:isStar a = false) (ha:DE X cls W a oa) :
  DE X cls W (.Call (.Name "isinstance" p) [a,.Name y p3] [] pos) (.val (gP1 (kIsi cl) oa)):=by
 have hb:PE X (.Name y p3) (tC (.ty cl.nm)):=pe_bltn hgy hmy hvy rfl hny hdy
 refine ⟨(pe_callB call_isi hg hm (by decide +kernel) (pa_cons ha.1 (pa_cons hb pa_nil) (star_cons hs)) (by decide) (by decide) (star_cons hs) rfl).imp fun σ H Q q => ?_,rfl⟩
 have z:=os_pure (os:=[oa]) (fine1 ha.2) (p_isi (K:=Px X cls) cl) q
 exact z
end
end Hu
namespace Hu
open PySem L2
section
open PySem.Spec PyProof.Rows
variable {X:Cx} {tg e:Expr} {te:TE}
def iSq (K:PySem.W.Frag) (te:TE):TI:=fun σ H R' => te σ H fun x H1 => ∃ a,x = .ref a∧(((∃ xs,SqL K H1 a xs)∧R' (Itl K a) H1)∨((∃ xs,SqT K H1 a xs)∧R' (Itt K a) H1))
theorem pi_sq (he:PE X e te):PI X tg e (iSq X.K te):=by
 constructor
 intro pins s σ H R' I h
 refine thn (he.run pins s σ H _ I h) fun v s1 ⟨x,H1,I1,r1,a,ex,q⟩ => ?_
 subst ex
 obtain rfl:v = Value.ref a:=r1
 have new:∀ o:Obj,FpOk X pins H1 s1.heap.objs.size:=fun _ => I1.fpOk (Nat.le_refl _) (I1.hok.fresh (Nat.le_refl _))
 rcases q with ⟨⟨xs,hq⟩,q⟩ | ⟨⟨xs,hq⟩,q⟩
 ·obtain ⟨its,rv,p,hz⟩:=I1.list hq
  (refine wpAny_pyIter_list p.isList ?_)
  refine ⟨_,[s1.heap.objs.size],_,_,H1,rfl,?_,turn_list a _,⟨_,Heap.get?_push_size _ rfl,rfl,rfl⟩,?_,q⟩
  ·exact I1.kept (t':=s1.toks) fun b o z => Heap.get?_push_of_some _ z
  ·intro b hb
   rw [List.mem_singleton.mp hb]; exact new default
 ·obtain ⟨its,rv,p,hz⟩:=I1.tuple hq
  (refine wpAny_pyIter_tuple (show s1.heap.IsTuple a its.toArray from p) ?_)
  refine ⟨_,[s1.heap.objs.size],_,_,H1,rfl,?_,turn_tuple a _,⟨_,Heap.get?_push_size _ rfl,rfl,rfl⟩,?_,q⟩
  ·exact I1.kept (t':=s1.toks) fun b o z => Heap.get?_push_of_some _ z
  ·intro b hb
   rw [List.mem_singleton.mp hb]; exact new default
def IteT (K:PySem.W.Frag) (a:Addr):It where
 go:=fun i H => ∃ (xs:List V) (x:V),SqT K H a xs∧xs[i]? = some x
 yld:=fun i H v H' => ∃ p x,v = .ref p∧H p = none∧H' = upd H p (.tup [.int (i:Nat),x])∧∀ xs,SqT K H a xs→xs[i]? = some x
 stop:=fun i H => ∃ xs:List V,SqT K H a xs∧xs.length≤i
theorem turn_enT {P:Program} {w:World} {K:PySem.W.Frag} {elts:List Expr} {kk:Nat} {tpos:Pos} (a e it:Addr) :
  Turn P w K (.Tuple elts kk tpos) (IteT K a) [e,it] e (fun i h => (∃ old,IsEnum h e it (0 + (i:Int)) old)∧h.IsTupleIter it a i∧e≠it) where
 mem:=List.mem_cons_self
 obj:=by
  intro i h st b hb
  obtain ⟨⟨old,he⟩,⟨o,ho,hc,hd⟩,_⟩:=st
  (rcases List.mem_cons.mp hb with z | z)
  ·subst z; exact ⟨_,he,fun v q => nomatch q⟩
  ·rw [List.mem_singleton.mp z]
   exact ⟨o,ho,fun v q => by rw [hd] at q; cases q⟩
 keep:=by
  intro i h h' st k
  obtain ⟨⟨old,he⟩,hi,hne⟩:=st
  exact ⟨⟨old,k e List.mem_cons_self _ he⟩,hi.at fun o q => k it (by simp) o q,hne⟩
 item:=by
  (intro X hP hw hK hc i pins s σ H E I hf st hg)
  subst hP hw hK
  obtain ⟨⟨old,he⟩,hit,hne⟩:=st
  obtain ⟨xs,x,hq,hx⟩:=hg
  obtain ⟨its,rv,p,hz⟩:=I.tuple hq
  have hel:e < s.heap.objs.size:=(Heap.lt_size he)
  have hil:it < s.heap.objs.size:=(let ⟨_,z,_⟩:=hit; Heap.lt_size z)
  have hea:e≠a:=fun z => by
   obtain ⟨o,ho,hcl,_⟩:=p
   rw [← z,he] at ho
   cases ho; simp at hcl
  have hai:¬ a = it:=fun z => by
   obtain ⟨o,ho,hcl,_⟩:=p
   obtain ⟨o',ho',hcl',_⟩:=hit
   rw [z,ho'] at ho
   cases ho; rw [hcl] at hcl'; simp at hcl'
  have hi:i < its.toArray.size:=by
   rw [List.size_toArray,← rv.length]
   exact (List.getElem?_eq_some_iff.mp hx).1
  refine wpAny_pyNext_enum_itemC (Draws.tuple (by exact I.ok.hd hc) it a hai its.toArray) he ⟨hit,p⟩ hi hne (by simp [hne,hea]) fun u h' tk hu ho hst hT hsz hk => ?_
  obtain ⟨w',hw',ru⟩:=rv.get hx
  have eu:u = w':=by
   have h1:its[i]? = some u:=by simpa using hu
   rw [hw'] at h1; exact (Option.some.inj h1).symm
  subst eu
  refine ⟨_,rfl,wpAny_letOwnedTupleGo_enum (s:={ s with heap:=h',toks:=tk + 1 }) ho fun h2 he2 sb => ?_⟩
  have hT2:h2.get? s.heap.objs.size = some { cls:=.type "tuple",data:=.seq #[.int (0 + (i:Int)) tk,u] }:=(sb.2 _ (Nat.ne_of_gt hel)).trans hT
  have new:ObjOk X.prog X.w (upd H s.heap.objs.size (.tup [.int (i:Nat),x])) h2 s.heap.objs.size (.tup [.int (i:Nat),x]) :=
   ⟨by show 2≤sizeLine; decide,[.int (0 + (i:Int)) tk,u],.cons ⟨tk,by rw [Int.zero_add]⟩ (.cons ru .nil),⟨_,hT2,rfl,_,rfl⟩⟩
  have I2:Inv X pins σ (upd H s.heap.objs.size (.tup [.int (i:Nat),x])) { s with heap:=h2,toks:=tk + 1 }:=by
   refine I.turnedNew (ch:=[e,it]) (fun b ob hb q => ?_) hf (Nat.le_refl _) new
   exact (sb.2 b (fun z => hb (by simp [z]))).trans (hk b ob (fun z => hb (by simp [z])) (fun z => hb (by simp [z])) q)
  refine ⟨.ref s.heap.objs.size,_,I2,rfl,⟨_,x,rfl,I.hok.fresh (Nat.le_refl _),rfl,fun ys hy => ?_⟩,⟨⟨u,?_⟩,?_,hne⟩,fun b hb => ?_⟩
  ·rw [I.tuple_inj hy hq]; exact hx
  ·have e1:(0:Int) + ((i + 1:Nat):Int) = 0 + (i:Int) + 1:=by omega
   rw [e1]; exact he2
  ·exact hst.1.at fun o q => (sb.2 it (Ne.symm hne)).trans q
  ·have hb':(b < s.heap.objs.size):=by
    (rcases List.mem_cons.mp hb with z | z)
    ·rw [z]; exact hel
    ·rw [List.mem_singleton.mp z]; exact hil
   (rw [upd_ne (Nat.ne_of_lt hb')])
   exact (hf b hb).1
 done:=by
  (intro X hP hw hK hc i pins s σ H E I hf st hg)
  subst hP hw hK
  obtain ⟨⟨old,he⟩,hit,hne⟩:=st
  obtain ⟨xs,hq,hx⟩:=hg
  obtain ⟨its,rv,p,hz⟩:=I.tuple hq
  obtain ⟨f0,f1,f2,f3,f4,f5⟩:=hf it (by simp)
  have hT:s.TypeIs (.ref e) "enumerate":=(⟨_,he,rfl⟩)
  unfold pyNext
  refine (wpAny_bind (wpAny_attempt (wpAny_callSpecial?_slot (name:=Str.ofString "__next__") hT F.slot_enumerate_next
   (wpAny_call_entry F.slot_enumerate_next hT F.entry_enumerate_next ?_ (F.args_enumerate_next_1 _)))))
  show wpAny _ _ ((field (.ref e) 2) >>= _) _ _ _
  refine wpAny_bind (wpAny_field he rfl (x:=.ref it) rfl ?_)
  refine wpAny_bind (wpAny_nextOf_tuple_end (show X.A.in1.handled = none from I.ok.hd hc) hit p (by simp; have:=rv.length; omega) fun h' x he' hx' => ?_)
  obtain ⟨o,ho,hcl⟩:=hx'
  refine wpAny_bind (wpAny_isInstance (T:="StopIteration") (b:=true) ⟨o,ho,hcl⟩ isSubtype_stop ?_)
  exact wpAny_pure ⟨rfl,I.turned (t':=s.toks) (fun b o hb q => he' b o hb q) f0 f1 f3 f4 f5⟩
 self:=fun A i s Q E st h => (let ⟨⟨_,he⟩,_⟩:=st; wpAny_pyIter_enum he h)
set_option maxHeartbeats 1234567 in
theorem meets_en1 {v:Value} {o:Obj} {Hh:Heap→Prop} (B:Begins v o Hh) :
  Meets (Builtin.«enumerate.__new__» ⟨[.type "enumerate",v],[]⟩) (fun _ R' s => Hh s.heap ∧
   R' (.ok (.ret (.ref (s.heap.push o).objs.size))) { s with heap:=(s.heap.push o).push { cls:=.type "enumerate",data:=.fields #[.none,.bool false,.ref s.heap.objs.size,rawInt 0,.none,.none] } }) :=
 .of_wp fun prog w A R' s h => by
  obtain ⟨hp,g,d,tk,os⟩:=s
  obtain ⟨h1,h⟩:=h
  have hsub:=sub_enumerate
  have q1:∀ {A':Around} {E:Value→Shared→Prop} {Q:Value→Shared→Prop},Q (.ref hp.objs.size) ⟨hp.push o,g,d,tk,os⟩→wpAny (model prog w) A' (pyIter v) Q E ⟨hp,g,d,tk,os⟩:=fun q =>
   B.iter prog w _ _ ⟨hp,g,d,tk,os⟩ _ h1 q
  wp_walk using q1
  (refine wpAny_stack_any fun st => wpAny_pure ?_)
  split
  next c _ _ _ _ _ =>
   cases (c == Value.type "enumerate") <;> (wp_walk using q1; exact ⟨_,rfl,h⟩)
  next => wp_walk using q1; exact ⟨_,rfl,h⟩
theorem call_en_tup {M:Program} {w:World} {A:Around} {E:Value→Shared→Prop} {s:Shared} {t:Addr} {items:Array Value} {Q:Value→Shared→Prop} (ht:s.heap.IsTuple t items)
  (h:∀ h',IsEnum h' (s.heap.objs.size + 1) s.heap.objs.size 0 .none→h'.IsTupleIter s.heap.objs.size t 0→(∀ b o,s.heap.get? b = some o→h'.get? b = some o)→Q (.ref (s.heap.objs.size + 1)) { s with heap:=h' }) :
  wpAny (model M w) A (call (.type "enumerate") [.ref t]) Q E s:=by
 refine callType_new (F.called_enumerate) (by decide) (F.typeCall_enumerate_1 _) (F.newCall_enumerate_1 _) (fun obj => F.args_object_init_2 obj _) F.entry_enumerate_new
  (meets_en1 (begins_tuple t items)) ⟨ht,?_⟩
 generalize ho:({ cls:=.type "tuple_iterator",data:=.fields #[.ref t,.int 0 0] }:Obj) = o
 have hz:(s.heap.push o).objs.size = s.heap.objs.size + 1:=(Heap.size_push ..)
 show _∧_
 rw [hz]
 have he:IsEnum ((s.heap.push o).push { cls:=.type "enumerate",data:=.fields #[.none,.bool false,.ref s.heap.objs.size,rawInt 0,.none,.none] }) (s.heap.objs.size + 1) s.heap.objs.size 0 .none:=by
  have q:=Heap.get?_push_size (s.heap.push o) (o:={ cls:=.type "enumerate",data:=.fields #[.none,.bool false,.ref s.heap.objs.size,rawInt 0,.none,.none] }) rfl
  rw [hz] at q; exact q
 refine ⟨⟨_,he,rfl⟩,h _ he ⟨o,?_,?_⟩ fun b o x => Heap.get?_push_of_some _ (Heap.get?_push_of_some _ x)⟩
 ·exact Heap.get?_push_of_some _ (Heap.get?_push_size _ (by rw [← ho]; rfl))
 ·rw [← ho]; exact ⟨rfl,rfl⟩
def iEn (K:PySem.W.Frag) (ta:TA):TI:=fun σ H R' => ta σ H fun vs H1 => ∃ a,vs = [.ref a]∧(((∃ xs,SqL K H1 a xs)∧R' (Ite K a) H1)∨((∃ xs,SqT K H1 a xs)∧R' (IteT K a) H1))
theorem pi_en {X:Cx} {e:Expr} {ta:TA} {p pos tpos:Pos} {elts:List Expr} {kk:Nat} (hg:Gl X "enumerate") (hm:X.mg "enumerate" = none) (ha:PA X [e] ta) (hs:starEach [e] X.env = [(false,eval e X.env)]) :
  PI X (.Tuple elts kk tpos) (.Call (.Name "enumerate" p) [e] [] pos) (iEn X.K ta):=by
 constructor
 intro pins s σ H R' I h
 refine Call_ (ld_blt I hg hm boot_enumerate (PyProof.Rows.callWith_type1 (thn (ha.run pos pins s σ H _ I h) fun us s1 ⟨vs,H1,I1,r1,a,ex,q⟩ => ?_) hs rfl))
 subst ex
 obtain rfl:us = [Value.ref a]:=Vals.ref1 r1
 have old:∀ b,b∈[s1.heap.objs.size + 1,s1.heap.objs.size]→FpOk X pins H1 b:=fun b hb => by
  have hle:(s1.heap.objs.size≤b):=by
   simp only [List.mem_cons,List.not_mem_nil,or_false] at hb
   rcases hb with z | z
   ·rw [z]; exact Nat.le_succ _
   ·rw [z]; exact Nat.le_refl _
  (exact I1.fpOk hle (I1.hok.fresh hle))
 rcases q with ⟨⟨xs,hq⟩,q⟩ | ⟨⟨xs,hq⟩,q⟩
 ·obtain ⟨its,rv,p',hz⟩:=I1.list hq
  (refine call_enumerate_list p'.isList fun h' he hit hsz hk => wpAny_pyIter_enum he ?_)
  exact ⟨s1.heap.objs.size + 1,_,_,_,H1,rfl,I1.kept (t':=s1.toks) hk,turn_enum a (s1.heap.objs.size + 1) s1.heap.objs.size,⟨⟨.none,he⟩,hit,Nat.succ_ne_self _⟩,old,q⟩
 ·obtain ⟨its,rv,p',hz⟩:=I1.tuple hq
  refine call_en_tup (show s1.heap.IsTuple a its.toArray from p') fun h' he hit hk => wpAny_pyIter_enum he ?_
  exact ⟨s1.heap.objs.size + 1,_,_,_,H1,rfl,I1.kept (t':=s1.toks) hk,turn_enT a (s1.heap.objs.size + 1) s1.heap.objs.size,⟨⟨.none,he⟩,hit,Nat.succ_ne_self _⟩,old,q⟩
end
end Hu
namespace Hu
open PySem L2
structure It0 where
 n:Nat
 item:Nat→Rho→Option T
 fin:Rho→Bool
 ls:List Nat
structure Wk (K:Par) (J:It) (w:It0) (ok:Addr→Prop) (Gd:Nat→Hp→Hp→St→(Nat→List Addr)→Prop):Prop where
 step:∀ {k F H σ ρ fp t},k < w.n→Sim K F H σ ρ fp→Gd k F H σ fp→w.item k ρ = some t→J.go k H∧∀ x H',J.yld k H x H' →
  ∃ F' A,(Same H H'∧Same F F'∧Same F' H'∧∀ a o,F' a = some o→F a = some o∨H a = none∨isT o = true)∧Tmp K F' H' fp x t A∧(∀ b,b∈A→ok b)∧∀ (fp1:Nat→List Addr) (σ1:St),(∀ b i,b∈fp1 i→(∃ j,b∈fp j)∨b∈A)→(∀ i,i∈w.ls→σ1[i]? = σ[i]?)→Gd (k + 1) F' H' σ1 fp1
 stop:∀ {F H σ ρ fp},Sim K F H σ ρ fp→Gd w.n F H σ fp→w.fin ρ = true→J.stop w.n H
 on:∀ {k F H σ ρ fp F' H' σ' ρ' fp'},Gd k F H σ fp→Sim K F H σ ρ fp→Sim K F' H' σ' ρ' fp'→Ext F H fp F' H' fp' []→(∀ i,i∈w.ls→σ'[i]? = σ[i]?)→Gd k F' H' σ' fp'
def PostI (K:Par) (F H:Hp) (σ:St) (fp:Nat→List Addr) (R':It→Hp→Prop) (w:It0) (ρ':Rho):Prop :=
 ∀ J F' H' fp' Gd,Sim K F' H' σ ρ' fp'→(∃ A,Ext F H fp F' H' fp' A)→Wk K J w (fun b => (∃ i,b∈fp i)∨H b = none) Gd→Gd 0 F' H' σ fp'→R' J H'
def tI (K:Par) (W:XW) (g:G It0):TI:=fun σ H R' => ∃ ρ F fp,Sim K F H σ ρ fp∧OutR K W F H σ fp (PostI K F H σ fp R') (g ρ)
abbrev DI (X:Cx) (cls:Str→Addr) (W:XW) (tg iter:Expr) (g:G It0):Prop:=PI X tg iter (tI (Px X cls) W g)
theorem _root_.L2.PI.imp {X:Cx} {tg e:Expr} {t t':TI} (h:PI X tg e t) (i:∀ σ H R',t' σ H R'→t σ H R'):PI X tg e t':=⟨fun pins s σ H R' I q => h.run pins s σ H R' I (i σ H R' q)⟩
structure Src where
 slot:Option Nat
 isL:Bool
 ts:List T
def seqK (isL:Bool) (t:T):Option (List D):=if isL = true then listOf t else tupOf t
def Src.look (q:Src) (ρ:Rho) (i:Nat):Option (List D):=match getS ρ i with
 | some t => match seqK q.isL t with
  | some ds => if ds.length = q.ts.length then some ds else none
  | none => none
 | none => none
def Src.item (q:Src) (k:Nat) (ρ:Rho):Option T:=match q.slot with
 | none => q.ts[k]?
 | some i => match q.look ρ i with
  | some ds => (ds[k]?).map T.d
  | none => none
def Src.fin (q:Src) (ρ:Rho):Bool:=match q.slot with
 | none => true
 | some i => (q.look ρ i).isSome
def SqX (isL:Bool) (K:PySem.W.Frag) (H:Hp) (a:Addr) (vs:List V):Prop:=match isL with
 | true => SqL K H a vs
 | false => SqT K H a vs
def Cell (isL:Bool) (K:Par) (F H:Hp) (fp:Nat→List Addr) (a:Addr) (B:List Addr) (vs:List V):Prop:=match isL with
 | true => F a = some (.lst vs)∨(H a = some (.lst vs)∧a∉B∧F a = none∧∀ i,a∉fp i)
 | false => H a = some (.tup vs)∨SqT K.K (fun _ => none) a vs
def SGd (K:Par) (ok:Addr→Prop) (q:Src) (a:Addr) (k:Nat) (F H:Hp) (σ:St) (fp:Nat→List Addr):Prop:=match q.slot with
 | some i => σ[i]? = some (some (.ref a))
 | none => ∃ vs B,Cell q.isL K F H fp a B vs∧vs.length = q.ts.length∧RA K F H (vs.drop k) (q.ts.drop k) B∧(∀ b,b∈B→∀ i,b∉fp i)∧(∀ b,b∈B→F b = none)∧∀ b,b∈B→ok b
section
variable {K:Par} {ok:Addr→Prop} {q:Src} {a:Addr} {k:Nat} {F H F' H':Hp} {σ σ':St} {ρ ρ':Rho} {fp fp':Nat→List Addr}
theorem Cell.seq {isL:Bool} {B:List Addr} {vs:List V} (c:Cell isL K F H fp a B vs) (e:Same F H):SqX isL K.K H a vs:=by
 cases isL with
 | true =>
  rcases c with c | ⟨c,_⟩
  ·exact .of (e _ _ c)
  ·exact .of c
 | false =>
  rcases c with c | c
  ·exact .of c
  ·exact sqT_any c
theorem seqK_at {isL:Bool} (e:Same F H) {v:V} {t:T} {A:List Addr} {ds:List D} (r:R K F H v t A) (h:seqK isL t = some ds):∃ a vs,v = .ref a∧SqX isL K.K H a vs∧FzA K F vs ds:=by
 unfold seqK at h
 cases isL with
 | true =>
  rw [if_pos rfl] at h
  obtain ⟨a,vs,e1,e2,z⟩:=listOf_at e r h
  exact ⟨a,vs,e1,.of e2,z⟩
 | false =>
  rw [if_neg (by decide)] at h
  obtain ⟨a,vs,e1,e2,z⟩:=tupOf_at e r h
  exact ⟨a,vs,e1,e2,z⟩
theorem look_some {i:Nat} {ds:List D} (h:q.look ρ i = some ds):∃ t,getS ρ i = some t∧seqK q.isL t = some ds∧ds.length = q.ts.length:=by
 unfold Src.look at h
 split at h
 ·rename_i t ht
  split at h
  ·rename_i ds' hd
   split at h
   ·cases h; exact ⟨t,ht,hd,by assumption⟩
   ·cases h
  ·cases h
 ·cases h
theorem look_at (s:Sim K F H σ ρ fp) {i:Nat} {ds:List D} (h:q.look ρ i = some ds) (g:σ[i]? = some (some (.ref a))):∃ vs,SqX q.isL K.K H a vs∧FzA K F vs ds∧ds.length = q.ts.length:=by
 obtain ⟨t,h1,h2,h3⟩:=look_some h
 obtain ⟨v,hv,r⟩:=s.sl i t (getS_some h1)
 rw [g] at hv; cases hv
 obtain ⟨b,vs,e1,e2,z⟩:=seqK_at s.sub r h2
 cases e1
 exact ⟨vs,e2,z,h3⟩
theorem SGd.end (s:Sim K F H σ ρ fp) (g:SGd K ok q a k F H σ fp) (f:q.fin ρ = true):∃ vs,SqX q.isL K.K H a vs∧vs.length = q.ts.length:=by
 unfold SGd at g
 unfold Src.fin at f
 split at g
 ·rename_i i hi
  rw [hi] at f
  simp only at f
  cases c:q.look ρ i with
  | none => rw [c] at f; simp at f
  | some ds =>
   obtain ⟨vs,h1,h2,h3⟩:=look_at s c g
   exact ⟨vs,h1,by rw [h2.length,h3]⟩
 ·obtain ⟨vs,B,c,l,_⟩:=g
  exact ⟨vs,c.seq s.sub,l⟩
theorem SGd.item (s:Sim K F H σ ρ fp) (g:SGd K ok q a k F H σ fp) {t:T} (f:q.item k ρ = some t):∃ vs v A,SqX q.isL K.K H a vs∧vs[k]? = some v∧Tmp K F H fp v t A∧(∀ b,b∈A→ok b) ∧
  ∀ (fp1:Nat→List Addr) (σ1:St),(∀ b i,b∈fp1 i→(∃ j,b∈fp j)∨b∈A)→(∀ i,q.slot = some i→σ1[i]? = σ[i]?)→SGd K ok q a (k + 1) F H σ1 fp1:=by
 unfold Src.item at f
 unfold SGd at g ⊢
 cases hs:q.slot with
 | some i =>
  rw [hs] at f g
  simp only at f g
  cases c:q.look ρ i with
  | none => rw [c] at f; cases f
  | some ds =>
   rw [c] at f
   simp only [Option.map_eq_some_iff] at f
   obtain ⟨x,hx,rfl⟩:=f
   obtain ⟨vs,h1,h2,h3⟩:=look_at s c g
   obtain ⟨v,hv,fz⟩:=h2.get hx
   exact ⟨vs,v,[],h1,hv,Tmp.frz fz,fun b z => absurd z (by simp),fun fp1 σ1 _ e => (e i rfl).trans g⟩
 | none =>
  rw [hs] at f g
  simp only at f g
  obtain ⟨vs,B,c,l,ra,dj,ff,okb⟩:=g
  have lt:k < q.ts.length:=(List.getElem?_eq_some_iff.mp f).1
  have et:q.ts.drop k = t :: q.ts.drop (k + 1):=by
   rw [List.drop_eq_getElem_cons lt]
   congr 1
   rw [List.getElem?_eq_getElem lt] at f; exact Option.some.inj f
  have lv:k < vs.length:=by omega
  have ev:vs.drop k = vs[k] :: vs.drop (k + 1):=List.drop_eq_getElem_cons lv
  rw [et,ev] at ra
  cases ra with
  | @cons _ _ _ _ A C r1 r2 n =>
   refine ⟨vs,vs[k],A,c.seq s.sub,by simp [lv],⟨r1,fun b z i => dj b (List.mem_append_left _ z) i,fun b z => ff b (List.mem_append_left _ z)⟩,fun b z => okb b (List.mem_append_left _ z),fun fp1 σ1 h _ => ⟨vs,C,?_,l,r2,fun b z i w => ?_,fun b z => ff b (List.mem_append_right _ z),fun b z => okb b (List.mem_append_right _ z)⟩⟩
   ·cases hl:q.isL with
    | true =>
     rw [hl] at c
     rcases c with c | ⟨c1,c2,c3,c4⟩
     ·exact .inl c
     ·refine .inr ⟨c1,fun z => c2 (List.mem_append_right _ z),c3,fun i w => ?_⟩
      rcases h a i w with ⟨j,z⟩ | z
      ·exact c4 j z
      ·exact c2 (List.mem_append_left _ z)
    | false => rw [hl] at c; exact c
   ·rcases h b i w with ⟨j,y⟩ | y
    ·exact dj b (List.mem_append_right _ z) j y
    ·exact n b y z
theorem SGd.on {A:List Addr} (g:SGd K ok q a k F H σ fp) (s:Sim K F H σ ρ fp) (s':Sim K F' H' σ' ρ' fp') (x:Ext F H fp F' H' fp' A) (ag:∀ i,q.slot = some i→σ'[i]? = σ[i]?):SGd K ok q a k F' H' σ' fp':=by
 unfold SGd at g ⊢
 cases hs:q.slot with
 | some i =>
  rw [hs] at g
  simp only at g ⊢
  rw [ag i hs]; exact g
 | none =>
  rw [hs] at g
  simp only at g ⊢
  obtain ⟨vs,B,c,l,ra,dj,ff,okb⟩:=g
  have lv:=ra.live
  have st:∀ b,b∈B→H' b = H b:=fun b z => by
   obtain ⟨o,e,_⟩:=lv b z
   rw [e]; exact x.keep b o e (dj b z)
  have nofp:∀ b,(∃ o,H b = some o)→(∀ i,b∉fp i)→∀ i,b∉fp' i:=fun b e n i z => by
   obtain ⟨o,e⟩:=e
   rcases x.own b (.inr ⟨i,z⟩) with ⟨j,y⟩ | y
   ·exact n j y
   ·rw [e] at y; cases y
  have noF:∀ b o,H b = some o→isT o = false→F b = none→(∀ i,b∉fp i)→F' b = none:=fun b o e nt fn n => by
   cases w:F' b with
   | none => rfl
   | some u =>
    have hb:=x.keep b o e n
    rcases x.fnew b u w with z | z | z | ⟨i,z⟩
    ·rw [fn] at z; cases z
    ·rw [e] at z; cases z
    ·have:=s'.sub b u w
     rw [hb] at this; cases this
     rw [nt] at z; cases z
    ·exact absurd z (n i)
  refine ⟨vs,B,?_,l,ra.frame x.fsub (s.tups x) st,fun b z => nofp b (let ⟨o,e,_⟩:=lv b z; ⟨o,e⟩) (dj b z),fun b z => ?_,okb⟩
  ·cases hl:q.isL with
   | true =>
    rw [hl] at c
    rcases c with c | ⟨c1,c2,c3,c4⟩
    ·exact .inl (x.fsub _ _ c)
    ·exact .inr ⟨x.keep a _ c1 c4,c2,noF a _ c1 rfl c3 c4,nofp a ⟨_,c1⟩ c4⟩
   | false =>
    rw [hl] at c
    rcases c with c | c
    ·exact .inl (s.tups x a vs c)
    ·exact .inr c
  ·obtain ⟨o,e,nt⟩:=lv b z
   exact noF b o e nt (ff b z) (dj b z)
theorem SGd.grow (g:SGd K ok q a k F H σ fp) (h1:Same H H') (h2:Same F F') (h3:Same F' H') (h4:∀ a o,F' a = some o→F a = some o∨H a = none∨isT o = true):SGd K ok q a k F' H' σ fp:=by
 unfold SGd at g ⊢
 cases hs:q.slot with
 | some i => rw [hs] at g; exact g
 | none =>
  rw [hs] at g
  simp only at g ⊢
  obtain ⟨vs,B,c,l,ra,dj,ff,okb⟩:=g
  have lv:=ra.live
  have noF:∀ b o,H b = some o→isT o = false→F b = none→F' b = none:=fun b o e nt fn => by
   cases w:F' b with
   | none => rfl
   | some u =>
    have hb:=h1 b o e
    rcases h4 b u w with z | z | z
    ·rw [fn] at z; cases z
    ·rw [e] at z; cases z
    ·have:=h3 b u w
     rw [hb] at this; cases this
     rw [nt] at z; cases z
  refine ⟨vs,B,?_,l,ra.frame h2 (tupSub_of h1) (fun b z => by obtain ⟨o,e,_⟩:=lv b z; rw [e]; exact h1 b o e),dj,fun b z => ?_,okb⟩
  ·cases hl:q.isL with
   | true =>
    rw [hl] at c
    rcases c with c | ⟨c1,c2,c3,c4⟩
    ·exact .inl (h2 _ _ c)
    ·exact .inr ⟨h1 a _ c1,c2,noF a _ c1 rfl c3,c4⟩
   | false =>
    rw [hl] at c
    rcases c with c | c
    ·exact .inl (h1 _ _ c)
    ·exact .inr c
  ·obtain ⟨o,e,nt⟩:=lv b z
   exact noF b o e nt (ff b z)
end
def srcOf:T→Option Src
 | .d (.list ds) => some ⟨none,true,ds.map T.d⟩
 | .d (.tuple ds) => some ⟨none,false,ds.map T.d⟩
 | .lst ts => some ⟨none,true,ts⟩
 | .tup ts => some ⟨none,false,ts⟩
 | _ => none
def slotSrc (i:Nat) (t:T):Option Src:=match listOf t with
 | some ds => some ⟨some i,true,ds.map T.d⟩
 | none => match tupOf t with
  | some ds => some ⟨some i,false,ds.map T.d⟩
  | none => none
def Opd.src:Opd→G Src
 | .nm i => fun ρ => match getS ρ i with
  | some t => match slotSrc i t with
   | some q => .ok q ρ
   | none => .bad
  | none => .bad
 | o => fun ρ => (o.vg ρ).bind fun t ρ' => match srcOf t with
  | some q => .ok q ρ'
  | none => .bad
theorem srcOf_at {K:Par} {F H:Hp} {σ:St} {ρ:Rho} {fp:Nat→List Addr} (s:Sim K F H σ ρ fp) {v:V} {t:T} {A:List Addr} {q:Src} {ok:Addr→Prop} (m:Tmp K F H fp v t A) (okA:∀ b,b∈A→ok b) (h:srcOf t = some q):∃ a vs,v = .ref a∧SqX q.isL K.K H a vs∧SGd K ok q a 0 F H σ fp:=by
 unfold srcOf at h
 split at h
 ·rename_i ds
  cases h
  cases m.r with
  | d z =>
   cases z with
   | lst h1 h2 => exact ⟨_,_,rfl,SqL.of (s.sub _ _ h1),_,[],.inl h1,by simp [h2.length],by simpa using RA.dats h2,fun b z => absurd z (by simp),fun b z => absurd z (by simp),fun b z => absurd z (by simp)⟩
 ·rename_i ds
  cases h
  cases m.r with
  | d z =>
   cases z with
   | tup h1 h2 => exact ⟨_,_,rfl,SqT.of (s.sub _ _ h1),_,[],.inl (s.sub _ _ h1),by simp [h2.length],by simpa using RA.dats h2,fun b z => absurd z (by simp),fun b z => absurd z (by simp),fun b z => absurd z (by simp)⟩
 ·rename_i ts
  cases h
  obtain ⟨r,dj,ff⟩:=m
  cases r with
  | @lst a vs _ A h1 h2 n =>
   exact ⟨a,vs,rfl,SqL.of h1,vs,A,.inr ⟨h1,n,ff a (by simp),dj a (by simp)⟩,h2.length,by simpa using h2,fun b z i => dj b (List.mem_cons_of_mem _ z) i,fun b z => ff b (List.mem_cons_of_mem _ z),fun b z => okA b (List.mem_cons_of_mem _ z)⟩
 ·rename_i ts
  cases h
  obtain ⟨r,dj,ff⟩:=m
  cases r with
  | @tup a vs _ A h1 h2 =>
   exact ⟨a,vs,rfl,SqT.of h1,vs,A,.inl h1,h2.length,by simpa using h2,fun b z i => dj b z i,fun b z => ff b z,okA⟩
 ·cases h
theorem src_ok {K:Par} {W:XW} {α:Type} {P:α→Rho→Prop} (o:Opd) (f:o.fine = true) {F H:Hp} {σ:St} {ρ:Rho} {fp:Nat→List Addr} {k:Src→G α} (s:Sim K F H σ ρ fp) (h:OutR K W F H σ fp P ((o.src ρ).bind k)) {Q:VK}
  (z:∀ q ρ' a vs F' H' fp' A,Sim K F' H' σ ρ' fp'→Ext F H fp F' H' fp' A→SqX q.isL K.K H' a vs→SGd K (fun b => (∃ i,b∈fp i)∨H b = none) q a 0 F' H' σ fp'→(∀ i,q.slot = some i→o = .nm i)→OutR K W F H σ fp P (k q ρ')→Q (.ref a) H'):tO K W o σ H Q:=by
 have gen:(∀ i,o≠.nm i)→o.src = (fun ρ => (o.vg ρ).bind fun t ρ' => match srcOf t with | some q => .ok q ρ' | none => .bad)→tO K W o σ H Q:=fun ne e => by
  rw [e] at h
  refine vg_ok o f ⟨ρ,F,fp,s,h.bind.bind.imp (Ext.refl F H fp) fun t ρ' _ h v F' H' fp' A s' m x => ?_⟩
  cases c:srcOf t with
  | none => rw [c] at h; exact h.elim
  | some q =>
   rw [c] at h
   obtain ⟨a,vs,rfl,h1,h2⟩:=srcOf_at s' m (fun b z => x.own b (.inl z)) c
   refine z q ρ' a vs F' H' fp' A s' x h1 h2 (fun i hi => ?_) h
   unfold srcOf at c
   split at c <;> first | (cases c; simp at hi) | cases c
 cases o with
 | nm i =>
  simp only [Opd.src] at h
  cases c:getS ρ i with
  | none => rw [c] at h; exact h.elim
  | some t =>
   rw [c] at h
   simp only at h
   obtain ⟨v,hv,r⟩:=s.sl i t (getS_some c)
   cases c2:slotSrc i t with
   | none => rw [c2] at h; exact h.elim
   | some q =>
    rw [c2] at h
    have hq:∃ ds a vs,seqK q.isL t = some ds∧q.slot = some i∧v = .ref a∧SqX q.isL K.K H a vs:=by
     unfold slotSrc at c2
     split at c2
     ·rename_i ds hd
      cases c2
      obtain ⟨a,vs,e1,e2,_⟩:=listOf_at s.sub r hd
      exact ⟨ds,a,vs,by simp [seqK,hd],rfl,e1,SqL.of e2⟩
     ·split at c2
      ·rename_i ds hd
       cases c2
       obtain ⟨a,vs,e1,e2,_⟩:=tupOf_at s.sub r hd
       exact ⟨ds,a,vs,by simp [seqK,hd],rfl,e1,e2⟩
      ·cases c2
    obtain ⟨ds,a,vs,_,hi,rfl,hx⟩:=hq
    refine ⟨.ref a,hv,z q ρ a vs F H fp [] s (Ext.refl F H fp) hx ?_ (fun j hj => by rw [hi] at hj; cases hj; rfl) h⟩
    unfold SGd
    rw [hi]; exact hv
 | con v x => exact gen (fun i e => by cases e) rfl
 | val g => exact gen (fun i e => by cases e) rfl
 | pk g => exact gen (fun i e => by cases e) rfl
 | iv g => exact gen (fun i e => by cases e) rfl
def Src.it (q:Src):It0:=⟨q.ts.length,q.item,q.fin,q.slot.toList⟩
theorem wk_plain {K:Par} {ok:Addr→Prop} {q:Src} {a:Addr}:Wk K (if q.isL = true then Itl K.K a else Itt K.K a) q.it ok (SGd K ok q a) where
 step:=by
  intro k F H σ ρ fp t hk s g f
  obtain ⟨vs,v,A,h1,h2,m,okA,z⟩:=g.item s f
  cases hl:q.isL with
  | true =>
   rw [hl] at h1
   rw [if_pos rfl]
   refine ⟨⟨vs,v,h1,h2⟩,fun x H' y => ?_⟩
   obtain ⟨rfl,y⟩:=y
   have e:=y vs h1
   rw [h2] at e; cases e
   exact ⟨F,A,⟨Same.refl _,Same.refl _,s.sub,fun _ _ h => .inl h⟩,m,okA,fun fp1 σ1 h e => z fp1 σ1 h fun i hi => e i (by simp [Src.it,hi])⟩
  | false =>
   rw [hl] at h1
   rw [if_neg (by decide)]
   refine ⟨⟨vs,v,h1,h2⟩,fun x H' y => ?_⟩
   obtain ⟨rfl,y⟩:=y
   have e:=y vs h1
   rw [h2] at e; cases e
   exact ⟨F,A,⟨Same.refl _,Same.refl _,s.sub,fun _ _ h => .inl h⟩,m,okA,fun fp1 σ1 h e => z fp1 σ1 h fun i hi => e i (by simp [Src.it,hi])⟩
 stop:=by
  intro F H σ ρ fp s g f
  obtain ⟨vs,h1,h2⟩:=g.end s f
  cases hl:q.isL with
  | true =>
   rw [hl] at h1
   rw [if_pos rfl]
   exact ⟨vs,h1,by rw [h2]; exact Nat.le_refl _⟩
  | false =>
   rw [hl] at h1
   rw [if_neg (by decide)]
   exact ⟨vs,h1,by rw [h2]; exact Nat.le_refl _⟩
 on:=fun g s s' x ag => g.on s s' x fun i hi => ag i (by simp [Src.it,hi])
def Src.itE (q:Src):It0:=⟨q.ts.length,fun k ρ => (q.item k ρ).map fun t => mkTup [.d (.int (k:Int)),t],q.fin,q.slot.toList⟩
theorem pair_new {K:Par} {F H:Hp} {σ:St} {ρ:Rho} {fp:Nat→List Addr} {k:Nat} {v:V} {t:T} {A:List Addr} {p:Addr} (s:Sim K F H σ ρ fp) (m:Tmp K F H fp v t A) (n:H p = none) :
  ∃ F',(Same F F'∧∀ a o,F' a = some o→F a = some o∨H a = none∨isT o = true)∧Sim K F' (upd H p (.tup [.int (k:Int),v])) σ ρ fp∧Tmp K F' (upd H p (.tup [.int (k:Int),v])) fp (.ref p) (mkTup [.d (.int (k:Int)),t]) A∧Ext F H fp F' (upd H p (.tup [.int (k:Int),v])) fp []:=by
 have fn:F p = none:=s.sub.free n
 cases ht:asDs [.d (.int (k:Int)),t] with
 | some ds =>
  rw [mkTup_d ht]
  have e:=asDs_some ht
  have hd:∃ y,t = .d y∧ds = [.int (k:Int),y]:=by
   cases ds with
   | nil => simp at e
   | cons d1 r =>
    cases r with
    | nil => simp at e
    | cons d2 r =>
     simp at e
     obtain ⟨e1,e2,e3⟩:=e
     subst e3
     exact ⟨d2,e2,by rw [e1]⟩
  obtain ⟨y,rfl,rfl⟩:=hd
  have fz:Fz K F v y:=m.r.fz
  have nA:A = []:=by
   cases m.r with
   | d _ => rfl
  subst nA
  have h4:∀ a o,upd F p (.tup [.int (k:Int),v]) a = some o→F a = some o∨H a = none∨isT o = true:=fun a o q => by
   by_cases c:a = p
   ·subst c; exact .inr (.inl n)
   ·rw [upd_ne c] at q; exact .inl q
  refine ⟨upd F p (.tup [.int (k:Int),v]),⟨same_upd fn,h4⟩,s.grow (same_upd n) (same_upd fn) (fun a o q => ?_) h4,Tmp.frz (.tup upd_same (.cons (.int _) (.cons (fz.mono (same_upd fn)) .nil))),Ext.grow (same_upd n) (same_upd fn) h4 (by simp)⟩
  by_cases c:a = p
  ·subst c; rw [upd_same] at q ⊢; exact q
  ·rw [upd_ne c] at q ⊢; exact s.sub a o q
 | none =>
  rw [mkTup_t ht]
  refine ⟨F,⟨Same.refl F,fun _ _ h => .inl h⟩,s.laid n,⟨.tup upd_same ?_,m.dj,m.ff⟩,Ext.laid n (by simp)⟩
  have r1:RA K F (upd H p (.tup [.int (k:Int),v])) [v] [t] (A++[]):=.cons (m.r.laid n) .nil (by simp)
  rw [List.append_nil] at r1
  exact RA.cons (A:=[]) (.d (.int _)) r1 (by simp)
theorem wk_enum {K:Par} {ok:Addr→Prop} {q:Src} {a:Addr}:Wk K (if q.isL = true then Ite K.K a else IteT K.K a) q.itE ok (SGd K ok q a) where
 step:=by
  intro k F H σ ρ fp t hk s g f
  simp only [Src.itE,Option.map_eq_some_iff] at f
  obtain ⟨t,f,rfl⟩:=f
  obtain ⟨vs,v,A,h1,h2,m,okA,z⟩:=g.item s f
  have go:∀ p,H p = none→∃ F' A,(Same H (upd H p (.tup [.int (k:Int),v]))∧Same F F'∧Same F' (upd H p (.tup [.int (k:Int),v]))∧∀ a o,F' a = some o→F a = some o∨H a = none∨isT o = true)∧Tmp K F' (upd H p (.tup [.int (k:Int),v])) fp (.ref p) (mkTup [.d (.int (k:Int)),t]) A∧(∀ b,b∈A→ok b) ∧
    ∀ (fp1:Nat→List Addr) (σ1:St),(∀ b i,b∈fp1 i→(∃ j,b∈fp j)∨b∈A)→(∀ i,i∈q.itE.ls→σ1[i]? = σ[i]?)→SGd K ok q a (k + 1) F' (upd H p (.tup [.int (k:Int),v])) σ1 fp1:=fun p n => by
   obtain ⟨F',⟨f1,f2⟩,s',m',x'⟩:=pair_new (k:=k) s m n
   exact ⟨F',A,⟨same_upd n,f1,s'.sub,f2⟩,m',okA,fun fp1 σ1 h e => (z fp1 σ1 h fun i hi => e i (by simp [Src.itE,hi])).grow (same_upd n) f1 s'.sub f2⟩
  cases hl:q.isL with
  | true =>
   rw [hl] at h1
   rw [if_pos rfl]
   refine ⟨⟨vs,v,h1,h2⟩,fun x H' y => ?_⟩
   obtain ⟨p,u,rfl,n,rfl,y⟩:=y
   have e:=y vs h1
   rw [h2] at e; cases e
   exact go p n
  | false =>
   rw [hl] at h1
   rw [if_neg (by decide)]
   refine ⟨⟨vs,v,h1,h2⟩,fun x H' y => ?_⟩
   obtain ⟨p,u,rfl,n,rfl,y⟩:=y
   have e:=y vs h1
   rw [h2] at e; cases e
   exact go p n
 stop:=by
  intro F H σ ρ fp s g f
  obtain ⟨vs,h1,h2⟩:=g.end s f
  cases hl:q.isL with
  | true =>
   rw [hl] at h1
   rw [if_pos rfl]
   exact ⟨vs,h1,by rw [h2]; exact Nat.le_refl _⟩
  | false =>
   rw [hl] at h1
   rw [if_neg (by decide)]
   exact ⟨vs,h1,by rw [h2]; exact Nat.le_refl _⟩
 on:=fun g s s' x ag => g.on s s' x fun i hi => ag i (by simp [Src.itE,hi])
end Hu
namespace Hu
open PySem L2
section
variable {X:Cx} {cls:Str→Addr} {W:XW} {e a b c tg:Expr} {es:List Expr} {os:List Opd} {pos:Pos} {oa ob oc o:Opd} {x:Str} {p:Pos}
def gSeq (o:Opd):G It0:=fun ρ => (o.src ρ).bind fun q ρ' => .ok q.it ρ'
def gEnum (o:Opd):G It0:=fun ρ => (o.src ρ).bind fun q ρ' => .ok q.itE ρ'
theorem di_seq (h:DE X cls W e o):DI X cls W tg e (gSeq o):=(pi_sq h.1).imp fun σ H R' q => by
 obtain ⟨ρ,F,fp,s,q⟩:=q
 refine src_ok o h.2 s q fun q ρ' a vs F' H' fp' A s' x hx g _ p => ⟨a,rfl,?_⟩
 have z:=p _ F' H' fp' _ s' ⟨A,x⟩ wk_plain g
 cases hl:q.isL with
 | true => rw [hl] at hx z; exact .inl ⟨⟨vs,hx⟩,z⟩
 | false => rw [hl] at hx z; exact .inr ⟨⟨vs,hx⟩,z⟩
theorem di_enum {elts:List Expr} {kk:Nat} {tpos:Pos} (hg:Gl X "enumerate") (hm:X.mg "enumerate" = none) (h:DE X cls W e o) (hs:isStar e = false):DI X cls W (.Tuple elts kk tpos) (.Call (.Name "enumerate" p) [e] [] pos) (gEnum o) :=
 (pi_en hg hm (pa_cons h.1 pa_nil (star_cons hs)) (star_cons hs)).imp fun σ H R' q => by
  obtain ⟨ρ,F,fp,s,q⟩:=q
  refine src_ok (Q:=fun x H1 => ∃ a,[x] = [.ref a]∧_) o h.2 s q fun q ρ' a vs F' H' fp' A s' x hx g _ p => ⟨a,rfl,?_⟩
  have z:=p _ F' H' fp' _ s' ⟨A,x⟩ wk_enum g
  cases hl:q.isL with
  | true => rw [hl] at hx z; exact .inl ⟨⟨vs,hx⟩,z⟩
  | false => rw [hl] at hx z; exact .inr ⟨⟨vs,hx⟩,z⟩
def in62 (i:Int):Bool:=decide (i.natAbs < 2 ^ 62)
def rng (lo:Int) (n:Nat):It0:=⟨n,fun k _ => some (.d (.int (lo + (k:Int)))),fun _ => true,[]⟩
def kRng1:List T→G It0
 | [.d (.int j)],ρ => if in62 j = true then .ok (rng 0 j.toNat) ρ else .bad
 | _,_ => .bad
def kRng2:List T→G It0
 | [.d (.int i),.d (.int j)],ρ => if (in62 i&&in62 j) = true then .ok (rng i (j - i).toNat) ρ else .bad
 | _,_ => .bad
theorem wk_rng {K:Par} {ok:Addr→Prop} {lo:Int} {n:Nat}:Wk K (Itr lo n) (rng lo n) ok (fun _ _ _ _ _ => True) where
 step:=by
  intro k F H σ ρ fp t hk s _ f
  cases f
  refine ⟨hk,fun x H' y => ?_⟩
  obtain ⟨rfl,rfl⟩:=y
  exact ⟨F,[],⟨Same.refl _,Same.refl _,s.sub,fun _ _ h => .inl h⟩,Tmp.frz (.int _),fun b z => absurd z (by simp),fun _ _ _ _ => trivial⟩
 stop:=fun _ _ _ => Nat.le_refl _
 on:=fun _ _ _ _ _ => trivial
theorem di_rng1 (hg:Gl X "range") (hm:X.mg "range" = none) (h:DE X cls W e o) (hs:isStar e = false):DI X cls W tg (.Call (.Name "range" p) [e] [] pos) (gOs [o] kRng1) :=
 (pi_range1 hg hm (pa_cons h.1 pa_nil (star_cons hs)) (star_cons hs)).imp fun σ H R' q => by
  obtain ⟨ρ,F,fp,s,q⟩:=q
  have f1:[o].all Opd.fine = true:=fine1 h.2
  refine gOs_run (Q:=fun vs H1 => ∃ j:Int,vs = [.int j]∧_) f1 (Ext.refl F H fp) s q fun vs xs ts ρ' F' H' fp' B s' x ar fi ha q => ?_
  clear fi ar
  unfold kRng1 at q
  split at q
  ·rename_i j
   split at q
   ·rename_i hj
    simp only [in62,decide_eq_true_eq] at hj
    obtain ⟨v,rfl,A,r⟩:=pairedOne ha
    rw [r.int]
    exact ⟨j,rfl,by omega,by omega,q _ F' H' fp' _ s' ⟨B,x⟩ wk_rng trivial⟩
   ·exact q.elim
  ·exact q.elim
theorem di_rng2 (hg:Gl X "range") (hm:X.mg "range" = none) (h:DE X cls W a oa) (h':DE X cls W b ob) (hs:isStar a = false) (hs':isStar b = false):DI X cls W tg (.Call (.Name "range" p) [a,b] [] pos) (gOs [oa,ob] kRng2) :=
 (pi_range2 hg hm (pa_cons h.1 (pa_cons h'.1 pa_nil (star_cons hs')) (star_cons hs)) (by rw [star_cons hs,star_cons hs']; rfl) (star_cons hs')).imp fun σ H R' q => by
  obtain ⟨ρ,F,fp,s,q⟩:=q
  refine gOs_run (Q:=fun vs H1 => ∃ i j:Int,vs = [.int i,.int j]∧_) (fine2 h.2 h'.2) (Ext.refl F H fp) s q fun vs xs ts ρ' F' H' fp' B s' x ar fi ha q => ?_
  clear fi ar
  unfold kRng2 at q
  split at q
  ·rename_i i j
   split at q
   ·rename_i hj
    simp only [in62,Bool.and_eq_true,decide_eq_true_eq] at hj
    obtain ⟨v,w,rfl,⟨A,r⟩,A',r'⟩:=pairedTwo ha
    rw [r.int,r'.int]
    exact ⟨i,j,rfl,⟨by omega,by omega,by omega,by omega⟩,q _ F' H' fp' _ s' ⟨B,x⟩ wk_rng trivial⟩
   ·exact q.elim
  ·exact q.elim
def Ag (st:List Nat) (σ σ':St):Prop:=σ'.length = σ.length∧∀ j,j∉st→σ'[j]? = σ[j]?
theorem Ag.refl (st:List Nat) (σ:St):Ag st σ σ:=⟨rfl,fun _ _ => rfl⟩
theorem Ag.trans {st st':List Nat} {σ σ1 σ2:St} (h:Ag st σ σ1) (h':Ag st' σ1 σ2):Ag (st++st') σ σ2:=⟨h'.1.trans h.1,fun j n => by
 rw [h'.2 j fun z => n (List.mem_append_right _ z),h.2 j fun z => n (List.mem_append_left _ z)]⟩
theorem Ag.mono {st st':List Nat} {σ σ':St} (h:Ag st σ σ') (i:∀ j,j∈st→j∈st'):Ag st' σ σ':=⟨h.1,fun j n => h.2 j fun z => n (i j z)⟩
theorem Ag.set {σ:St} {i:Nat} {u:Option V}:Ag [i] σ (σ.set i u):=⟨by simp,fun j n => List.getElem?_set_ne fun z => n (by simp [z])⟩
def tN (K:Par) (f:T→Rho→Option Rho) (st:List Nat):TG:=fun v σ H Q => ∃ ρ F fp t A ρ',Sim K F H σ ρ fp∧Tmp K F H fp v t A∧f t ρ = some ρ' ∧
 ∀ σ' fp',Sim K F H σ' ρ' fp'→(∀ b i,b∈fp' i→(∃ j,b∈fp j)∨b∈A)→Ag st σ σ'→Q σ' H
abbrev DG (X:Cx) (cls:Str→Addr) (e:Expr) (f:T→Rho→Option Rho) (st:List Nat):Prop:=PG X e (tN (Px X cls) f st)
theorem _root_.L2.PG.imp {X:Cx} {e:Expr} {t t':TG} (h:PG X e t) (i:∀ v σ H Q,t' v σ H Q→t v σ H Q):PG X e t':=⟨fun pins s σ H v u Q I r q => h.run pins s σ H v u Q I r (i v σ H Q q)⟩
theorem _root_.L2.PGs.imp {X:Cx} {e:List Expr} {t t':TGs} (h:PGs X e t) (i:∀ v σ H Q,t' v σ H Q→t v σ H Q):PGs X e t':=⟨fun pins s σ H v u Q I r q => h.run pins s σ H v u Q I r (i v σ H Q q)⟩
def setS (i:Nat) (t:T) (ρ:Rho):Option Rho:=if i < ρ.length then some (ρ.set i (some t)) else none
theorem Sim.set {K:Par} {F H:Hp} {σ:St} {ρ:Rho} {fp:Nat→List Addr} {v:V} {t:T} {A:List Addr} (s:Sim K F H σ ρ fp) (m:Tmp K F H fp v t A) {i:Nat} (l:i < ρ.length) :
  Sim K F H (σ.set i (some v)) (ρ.set i (some t)) (fun j => if j = i then A else fp j):=by
 refine ⟨by simpa using s.len,fun j u h => ?_,fun j k n b hb hc => ?_,fun j b h => ?_,fun j b h => ?_,s.sub⟩
 ·by_cases c:j = i
  ·subst c
   rw [List.getElem?_set_self l] at h
   cases h
   refine ⟨v,by rw [List.getElem?_set_self (by rw [s.len]; exact l)],?_⟩
   rw [if_pos rfl]; exact m.r
  ·rw [List.getElem?_set_ne (Ne.symm c)] at h ⊢
   rw [if_neg c]
   exact s.sl j u h
 ·split at hb
  ·split at hc
   ·rename_i e1 e2; exact n (e1.trans e2.symm)
   ·exact m.dj b hb k hc
  ·split at hc
   ·exact m.dj b hc j hb
   ·exact s.dj j k n b hb hc
 ·split at h
  ·exact m.ff b h
  ·exact s.ff j b h
 ·split at h
  ·exact m.r.live b h
  ·exact s.mt j b h
theorem dg_name {i:Nat} (hN:X.N.Nodup) (hi:X.N[i]? = some x) (hx:Loc X.env.scope x) (hf:X.fn x = true∨X.env.scope.names.lookup x = some .local):DG X cls (.Name x pos) (setS i) [i] :=
 (pg_name hN hi hx hf).imp fun v σ H Q q => by
  obtain ⟨ρ,F,fp,t,A,ρ',s,m,f,k⟩:=q
  unfold setS at f
  split at f
  ·rename_i l
   cases f
   refine k _ _ (s.set m l) (fun b j h => ?_) Ag.set
   split at h
   ·exact .inr h
   ·exact .inl ⟨j,h⟩
  ·cases f
def setAll:List (T→Rho→Option Rho)→List T→Rho→Option Rho
 | [],[],ρ => some ρ
 | f :: fs,t :: ts,ρ => (f t ρ).bind fun ρ' => setAll fs ts ρ'
 | _,_,_ => none
def tNs (K:Par) (fs:List (T→Rho→Option Rho)) (st:List Nat):TGs:=fun vs σ H Q => ∃ ρ F fp ts A ρ',Sim K F H σ ρ fp∧RA K F H vs ts A∧(∀ b,b∈A→∀ i,b∉fp i)∧(∀ b,b∈A→F b = none)∧setAll fs ts ρ = some ρ' ∧
 ∀ σ' fp',Sim K F H σ' ρ' fp'→(∀ b i,b∈fp' i→(∃ j,b∈fp j)∨b∈A)→Ag st σ σ'→Q σ' H
def isStarT:Expr→Bool
 | .Starred _ _ => true
 | _ => false
theorem assignEach_cons {e:Expr} {es:List Expr} {env:Env} (h:isStarT e = false):(assignEach (e :: es) env).map (·.2) = assign e env :: (assignEach es env).map (·.2):=by
 cases e <;> first | rfl | simp [isStarT] at h
theorem assignEach_len {env:Env}:∀ es:List Expr,(assignEach es env).length = es.length
 | [] => rfl
 | e :: es => by cases e <;> simp [assignEach,assignEach_len es]
inductive DGs (X:Cx) (cls:Str→Addr):List Expr→List (T→Rho→Option Rho)→List Nat→Prop
 | nil:DGs X cls [] [] []
 | cons {e f st es fs ss}:isStarT e = false→DG X cls e f st→DGs X cls es fs ss→DGs X cls (e :: es) (f :: fs) (st++ss)
theorem DGs.pg:∀ {es:List Expr} {fs:List (T→Rho→Option Rho)} {st:List Nat},DGs X cls es fs st→PGs X es (tNs (Px X cls) fs st)
 | _,_,_,.nil => pgs_nil.imp fun vs σ H Q q => by
  obtain ⟨ρ,F,fp,ts,A,ρ',s,r,dj,ff,f,k⟩:=q
  cases r with
  | nil =>
   simp only [setAll,Option.some.injEq] at f
   subst f
   exact ⟨rfl,k σ fp s (fun b i h => .inl ⟨i,h⟩) (Ag.refl _ _)⟩
  | cons _ _ _ => simp [setAll] at f
 | _,_,_,.cons (st:=st) (ss:=ss) hs h hr => (pgs_cons h hr.pg (assignEach_cons hs)).imp fun vs σ H Q q => by
  obtain ⟨ρ,F,fp,ts,A,ρ',s,r,dj,ff,f,k⟩:=q
  cases r with
  | nil => simp [setAll] at f
  | @cons v vs t ts A B r1 r2 n =>
   simp only [setAll,Option.bind_eq_some_iff] at f
   obtain ⟨ρ1,f1,f2⟩:=f
   refine ⟨v,vs,rfl,ρ,F,fp,t,A,ρ1,s,⟨r1,fun b z => dj b (List.mem_append_left _ z),fun b z => ff b (List.mem_append_left _ z)⟩,f1,fun σ1 fp1 s1 h1 g1 => ?_⟩
   refine ⟨ρ1,F,fp1,ts,B,ρ',s1,r2,fun b z i w => ?_,fun b z => ff b (List.mem_append_right _ z),f2,fun σ2 fp2 s2 h2 g2 => k σ2 fp2 s2 (fun b i w => ?_) (g1.trans g2)⟩
   ·rcases h1 b i w with ⟨j,y⟩ | y
    ·exact dj b (List.mem_append_right _ z) j y
    ·exact n b y z
   ·rcases h2 b i w with ⟨j,y⟩ | y
    ·rcases h1 b j y with y | y
     ·exact .inl y
     ·exact .inr (List.mem_append_left _ y)
    ·exact .inr (List.mem_append_right _ y)
def partsOf:T→Option (List T)
 | .d (.tuple ds) => some (ds.map T.d)
 | .tup ts => some ts
 | _ => none
def setTup (fs:List (T→Rho→Option Rho)) (t:T) (ρ:Rho):Option Rho:=(partsOf t).bind fun ts => setAll fs ts ρ
theorem setAll_len:∀ {fs:List (T→Rho→Option Rho)} {ts:List T} {ρ ρ':Rho},setAll fs ts ρ = some ρ'→ts.length = fs.length
 | [],[],_,_,_ => rfl
 | [],_ :: _,_,_,h => by simp [setAll] at h
 | _ :: _,[],_,_,h => by simp [setAll] at h
 | f :: fs,t :: ts,ρ,ρ',h => by
  simp only [setAll,Option.bind_eq_some_iff] at h
  obtain ⟨_,_,h⟩:=h
  simp [setAll_len h]
theorem DGs.len:∀ {es:List Expr} {fs:List (T→Rho→Option Rho)} {st:List Nat},DGs X cls es fs st→es.length = fs.length
 | _,_,_,.nil => rfl
 | _,_,_,.cons _ _ h => by simp [h.len]
theorem DGs.nostar {env:Env}:∀ {es:List Expr} {fs:List (T→Rho→Option Rho)} {st:List Nat},DGs X cls es fs st→(assignEach es env).findIdx? (·.1) = none
 | _,_,_,.nil => rfl
 | _,_,_,.cons (e:=e) (es:=es) hs _ h => by
  have ih:=h.nostar (env:=env)
  have e1:∃ q,assignEach (e :: es) env = (false,q) :: assignEach es env:=by
   cases e <;> first | exact ⟨_,rfl⟩ | simp [isStarT] at hs
  obtain ⟨q,e1⟩:=e1
  rw [e1,List.findIdx?_cons]
  simp [ih]
theorem dg_tup {k:Nat} {fs:List (T→Rho→Option Rho)} {st:List Nat} (hc:X.calm = true) (h:DGs X cls es fs st):DG X cls (.Tuple es k pos) (setTup fs) st :=
 (pg_tup hc h.pg (assignEach_len es) h.nostar).imp fun v σ H Q q => by
  obtain ⟨ρ,F,fp,t,A,ρ',s,m,f,kk⟩:=q
  simp only [setTup,Option.bind_eq_some_iff] at f
  obtain ⟨ts,f1,f2⟩:=f
  have hl:=setAll_len f2
  unfold partsOf at f1
  split at f1
  ·rename_i ds
   cases f1
   have fz:=m.r.fz
   cases fz with
   | tup h1 h2 => exact ⟨_,_,rfl,.of (s.sub _ _ h1),by rw [h2.length,h.len,← hl]; simp,ρ,F,fp,_,[],ρ',s,RA.dats h2,by simp,by simp,f2,fun σ' fp' s' i g => kk σ' fp' s' (fun b j z => (i b j z).imp id fun w => absurd w (by simp)) g⟩
  ·rename_i us
   cases f1
   obtain ⟨r,dj,ff⟩:=m
   cases r with
   | @tup a vs _ A h1 h2 => exact ⟨a,vs,rfl,.of h1,by rw [h2.length,h.len,← hl],ρ,F,fp,_,A,ρ',s,h2,dj,ff,f2,kk⟩
  ·cases f1
inductive SOut where
 | nx (ρ:Rho)
 | ct (ρ:Rho)
 | rt (t:T) (ρ:Rho)
 | ex (c:Str) (f:Option (Str × T)) (ρ:Rho)
 | bad
 deriving Inhabited
abbrev SG:=Rho→SOut
def OutS (K:Par) (W:XW) (st:List Nat) (F H:Hp) (σ:St) (fp:Nat→List Addr) (D:Ends):SOut→Prop
 | .nx ρ' => ∀ σ' F' H' fp',Sim K F' H' σ' ρ' fp'→Ext F H fp F' H' fp' []→Ag st σ σ'→D.nx σ' H'
 | .ct ρ' => ∀ σ' F' H' fp',Sim K F' H' σ' ρ' fp'→Ext F H fp F' H' fp' []→Ag st σ σ'→D.ct σ' H'
 | .rt t ρ' => ∀ v σ' F' H' fp' A,Sim K F' H' σ' ρ' fp'→Tmp K F' H' fp' v t A→Ext F H fp F' H' fp' A→Ag st σ σ'→D.rt v H'
 | .ex c f ρ' => ∀ d σ' F' H' fp' A,Sim K F' H' σ' ρ' fp'→XDict K F' H' fp' d f A→Ext F H fp F' H' fp' A→Ag st σ σ'→W σ' (.ref (K.cls c)) d H'
 | .bad => False
def tS (K:Par) (W:XW) (st:List Nat) (g:SG):TS:=fun D σ H => ∃ ρ F fp,Sim K F H σ ρ fp∧OutS K W st F H σ fp D (g ρ)
abbrev DS (X:Cx) (cls:Str→Addr) (W:XW) (s:Stmt) (st:List Nat) (g:SG):Prop:=PS X s (tS (Px X cls) W st g)
abbrev DSs (X:Cx) (cls:Str→Addr) (W:XW) (s:List Stmt) (st:List Nat) (g:SG):Prop:=PSs X s (tS (Px X cls) W st g)
section
variable {K:Par} {F H F1 H1:Hp} {σ σ1:St} {fp fp1:Nat→List Addr} {A:List Addr} {D D':Ends} {st st':List Nat}
theorem OutS.shift {o:SOut} (h:OutS K W st F H σ fp D o) (x:Ext F H fp F1 H1 fp1 A) (g:Ag st σ σ1):OutS K W st F1 H1 σ1 fp1 D o:=by
 have tr:∀ {σ2:St},Ag st σ1 σ2→Ag st σ σ2:=fun g2 => (g.trans g2).mono fun j z => by rcases List.mem_append.mp z with z | z <;> exact z
 cases o with
 | nx ρ' => exact fun σ' F' H' fp' s y g' => h σ' F' H' fp' s (x.trans y) (tr g')
 | ct ρ' => exact fun σ' F' H' fp' s y g' => h σ' F' H' fp' s (x.trans y) (tr g')
 | rt t ρ' => exact fun v σ' F' H' fp' B s m y g' => h v σ' F' H' fp' B s m (x.trans y) (tr g')
 | ex c f ρ' => exact fun d σ' F' H' fp' B s m y g' => h d σ' F' H' fp' B s m (x.trans y) (tr g')
 | bad => exact h
def Out.s {α:Type} (o:Out α) (f:α→Rho→SOut):SOut:=match o with
 | .ok a ρ => f a ρ
 | .ex c u ρ => .ex c u ρ
 | .bad => .bad
theorem OutS.run {α:Type} {o:Out α} {f:α→Rho→SOut} (h:OutS K W st F H σ fp D (o.s f)):OutR K W F H σ fp (fun a ρ => OutS K W st F H σ fp D (f a ρ)) o:=by
 cases o with
 | ok a ρ => exact h
 | ex c u ρ => exact fun d F' H' fp' A s m x => h d σ F' H' fp' A s m x (Ag.refl _ _)
 | bad => exact h
theorem OutS.mono {o:SOut} (h:OutS K W st F H σ fp D o) (i:∀ j,j∈st'→j∈st) (hn:∀ σ' H',D.nx σ' H'→D'.nx σ' H') (hc:∀ σ' H',D.ct σ' H'→D'.ct σ' H') (hr:∀ v H',D.rt v H'→D'.rt v H'):OutS K W st' F H σ fp D' o:=by
 cases o with
 | nx ρ' => exact fun σ' F' H' fp' s y g' => hn _ _ (h σ' F' H' fp' s y (g'.mono i))
 | ct ρ' => exact fun σ' F' H' fp' s y g' => hc _ _ (h σ' F' H' fp' s y (g'.mono i))
 | rt t ρ' => exact fun v σ' F' H' fp' B s m y g' => hr _ _ (h v σ' F' H' fp' B s m y (g'.mono i))
 | ex c f ρ' => exact fun d σ' F' H' fp' B s m y g' => h d σ' F' H' fp' B s m y (g'.mono i)
 | bad => exact h
end
variable {s:Stmt} {ss:List Stmt} {st st':List Nat} {g g':SG}
def sPass:SG:=fun ρ => .nx ρ
def sCont:SG:=fun ρ => .ct ρ
def sSeq (g h:SG):SG:=fun ρ => match g ρ with
 | .nx ρ' => h ρ'
 | o => o
def sDrop (g:G T):SG:=fun ρ => (g ρ).s fun _ ρ' => .nx ρ'
def sRet (g:G T):SG:=fun ρ => (g ρ).s fun t ρ' => .rt t ρ'
def sRetN:SG:=fun ρ => .rt (.d .none) ρ
def sIf (c:G Bool) (g h:SG):SG:=fun ρ => (c ρ).s fun k ρ' => if k = true then g ρ' else h ρ'
def sSet (i:Nat) (g:G T):SG:=fun ρ => (g ρ).s fun t ρ' => match setS i t ρ' with
 | some ρ2 => .nx ρ2
 | none => .bad
def sAsg (f:T→Rho→Option Rho) (g:G T):SG:=fun ρ => (g ρ).s fun t ρ' => match f t ρ' with
 | some ρ2 => .nx ρ2
 | none => .bad
theorem dss_nil:DSs X cls W [] [] sPass:=pss_nil.imp fun D σ H q => by
 obtain ⟨ρ,F,fp,s,o⟩:=q
 exact o σ F H fp s (Ext.refl F H fp) (Ag.refl _ _)
theorem dss_cons (h:DS X cls W s st g) (h':DSs X cls W ss st' g'):DSs X cls W (s :: ss) (st++st') (sSeq g g'):=(pss_cons h h').imp fun D σ H q => by
 obtain ⟨ρ,F,fp,s,o⟩:=q
 refine ⟨ρ,F,fp,s,?_⟩
 unfold sSeq at o
 cases c:g ρ with
 | nx ρ' =>
  rw [c] at o
  intro σ1 F1 H1 fp1 s1 x1 g1
  refine ⟨ρ',F1,fp1,s1,?_⟩
  have o2:OutS (Px X cls) W (st++st') F1 H1 σ1 fp1 D (g' ρ'):=o.shift x1 (g1.mono fun j z => List.mem_append_left _ z)
  exact o2.mono (fun j z => List.mem_append_right _ z) (fun _ _ h => h) (fun _ _ h => h) (fun _ _ h => h)
 | ct ρ' => rw [c] at o; exact fun σ' F' H' fp' s y g' => o σ' F' H' fp' s y (g'.mono fun j z => List.mem_append_left _ z)
 | rt t ρ' => rw [c] at o; exact fun v σ' F' H' fp' B s m y g' => o v σ' F' H' fp' B s m y (g'.mono fun j z => List.mem_append_left _ z)
 | ex c' f ρ' => rw [c] at o; exact fun v σ' F' H' fp' B s m y g' => o v σ' F' H' fp' B s m y (g'.mono fun j z => List.mem_append_left _ z)
 | bad => rw [c] at o; exact o
theorem dss_one (h:DS X cls W s st g):DSs X cls W [s] st g:=pss_one h
theorem ds_drop (h:DE X cls W e o) (hs:swapsWith e none pos.line X.env = pure false):DS X cls W (.Expr e pos) [] (sDrop o.vg):=(ps_expr h.own hs).imp fun D σ H q => by
 obtain ⟨ρ,F,fp,s,q⟩:=q
 exact ⟨ρ,F,fp,s,q.run.imp (Ext.refl F H fp) fun t ρ' _ q v F' H' fp' A s' m x => q σ F' H' fp' s' x.nil (Ag.refl _ _)⟩
theorem ds_ret (h:DE X cls W e o):DS X cls W (.Return (some e) pos) [] (sRet o.vg):=(ps_ret h.own).imp fun D σ H q => by
 obtain ⟨ρ,F,fp,s,q⟩:=q
 exact ⟨ρ,F,fp,s,q.run.imp (Ext.refl F H fp) fun t ρ' _ q v F' H' fp' A s' m x => q v σ F' H' fp' A s' m x (Ag.refl _ _)⟩
theorem ds_if {k:G Bool} {s1 s2:List Stmt} (hc:DT X cls W c k) (h:DSs X cls W s1 st g) (h':DSs X cls W s2 st' g'):DS X cls W (.If c s1 s2 pos) (st++st') (sIf k g g'):=(ps_if hc h h').imp fun D σ H q => by
 obtain ⟨ρ,F,fp,s,q⟩:=q
 refine ⟨ρ,F,fp,s,q.run.imp (Ext.refl F H fp) fun k ρ' _ q F' H' fp' s' x => ?_⟩
 have q:=q.shift x (Ag.refl _ _)
 cases k with
 | true => rw [if_pos rfl] at q; refine iteT ?_; exact ⟨ρ',F',fp',s',q.mono (fun j z => List.mem_append_left _ z) (fun _ _ h => h) (fun _ _ h => h) (fun _ _ h => h)⟩
 | false => rw [if_neg (by decide)] at q; refine iteF ?_; exact ⟨ρ',F',fp',s',q.mono (fun j z => List.mem_append_right _ z) (fun _ _ h => h) (fun _ _ h => h) (fun _ _ h => h)⟩
theorem Ext.cells {F H F0 H0:Hp} {fp fp' fp0:Nat→List Addr} {A:List Addr} (x:Ext F0 H0 fp0 F H fp A) (h:∀ b i,b∈fp' i→(∃ j,b∈fp j)∨b∈A):Ext F0 H0 fp0 F H fp' [] :=
 ⟨x.keep,x.fsub,x.fnew,fun a z => by
  rcases z with z | ⟨i,z⟩
  ·simp at z
  ·rcases h a i z with ⟨j,y⟩ | y
   ·exact x.own a (.inr ⟨j,y⟩)
   ·exact x.own a (.inl y)⟩
theorem asg_ok {K:Par} {f:T→Rho→Option Rho} {D:Ends} {σ:St} {H:Hp} {g:G T} (h:tS K W st (sAsg f g) D σ H):tG K W g σ H fun v H1 => tN K f st v σ H1 D.nx:=by
 obtain ⟨ρ,F,fp,s,q⟩:=h
 refine ⟨ρ,F,fp,s,q.run.imp (Ext.refl F H fp) fun t ρ' _ q v F' H' fp' A s' m x => ?_⟩
 cases c:f t ρ' with
 | none => rw [c] at q; exact q.elim
 | some ρ2 =>
  rw [c] at q
  exact ⟨ρ',F',fp',t,A,ρ2,s',m,c,fun σ2 fp2 s2 i g => q σ2 F' H' fp2 s2 (x.cells i) g⟩
theorem ds_asg {f:T→Rho→Option Rho} (h:DE X cls W e o) (ht:DG X cls tg f st) (hst:isStarT tg = false) (hs:swapsWithSole [tg] e pos.line X.env = pure false) (hw:swappedStores [tg] e X.env = pure none):DS X cls W (.Assign [tg] e pos) st (sAsg f o.vg) :=
 (ps_asg h.own ht hs hw (assignEach_cons hst)).imp fun D σ H q => asg_ok q
theorem ds_set {i:Nat} {p2:Pos} (hN:X.N.Nodup) (hi:X.N[i]? = some x) (hx:Loc X.env.scope x) (hf:X.fn x = true∨X.env.scope.names.lookup x = some .local) (h:DE X cls W e o) (hs:swapsWith e (some (.Name x p2)) pos.line X.env = pure false) :
  DS X cls W (.Assign [.Name x p2] e pos) [i] (sSet i o.vg) :=
 (ps_set hN hi hx h.own hs hf).imp fun D σ H q => by
  have z:=asg_ok (f:=setS i) (g:=o.vg) (show tS (Px X cls) W [i] (sAsg (setS i) o.vg) D σ H from q)
  refine tO_mono (o:=.val o.vg) z fun v H1 z => ?_
  obtain ⟨ρ,F,fp,t,A,ρ',s,m,f,k⟩:=z
  unfold setS at f
  split at f
  ·rename_i l
   cases f
   refine k _ _ (s.set m l) (fun b j h => ?_) Ag.set
   split at h
   ·exact .inr h
   ·exact .inl ⟨j,h⟩
  ·cases f
def loopN (item:Nat→Rho→Option T) (fin:Rho→Bool) (tg:T→Rho→Option Rho) (body:SG):Nat→Nat→SG
 | 0,_,ρ => if fin ρ = true then .nx ρ else .bad
 | n + 1,k,ρ => match item k ρ with
  | none => .bad
  | some t => match tg t ρ with
   | none => .bad
   | some ρ1 => match body ρ1 with
    | .nx ρ2 => loopN item fin tg body n (k + 1) ρ2
    | .ct ρ2 => loopN item fin tg body n (k + 1) ρ2
    | o => o
def disj (xs ys:List Nat):Bool:=xs.all fun i => !ys.contains i
def sFor (st:List Nat) (it:G It0) (tg:T→Rho→Option Rho) (body:SG):SG:=fun ρ => (it ρ).s fun w ρ' => if disj w.ls st = true then loopN w.item w.fin tg body w.n 0 ρ' else .bad
theorem loop_ok {K:Par} {J:It} {w:It0} {Gd:Nat→Hp→Hp→St→(Nat→List Addr)→Prop} {F0 H0:Hp} {σ0:St} {fp0:Nat→List Addr} {D:Ends} {f:T→Rho→Option Rho} {body:SG} (wk:Wk K J w (fun b => (∃ i,b∈fp0 i)∨H0 b = none) Gd) (hd:disj w.ls (st++st') = true)
  {F H:Hp} {σ:St} {ρ:Rho} {fp:Nat→List Addr} (s:Sim K F H σ ρ fp) (x:Ext F0 H0 fp0 F H fp []) (ag:Ag (st++st') σ0 σ) (g:Gd 0 F H σ fp) (o:OutS K W (st++st') F0 H0 σ0 fp0 D (loopN w.item w.fin f body w.n 0 ρ)) :
  ∃ Wd:Nat→Nat→St→Hp→Prop,(∃ m,Wd 0 m σ H)∧∀ i m σ H,Wd i m σ H →
   (J.stop i H∧D.nx σ H)∨(J.go i H∧∃ N:St→Hp→Prop,(∀ σ' H',N σ' H'→∃ m',m' < m∧Wd (i + 1) m' σ' H')∧∀ x H',J.yld i H x H'→tN K f st x σ H' fun σ2 H2 => tS K W st' body { D with nx:=N,ct:=N,bk:=D.nx } σ2 H2):=by
 have lsn:∀ {i:Nat},i∈w.ls→i∉st∧i∉st':=fun {i} h => by
  have:=List.all_eq_true.mp hd i h
  simp at this
  exact this
 refine ⟨fun i m σ H => m = w.n - i∧i≤w.n∧∃ ρ F fp,Sim K F H σ ρ fp∧Ext F0 H0 fp0 F H fp []∧Ag (st++st') σ0 σ∧Gd i F H σ fp∧OutS K W (st++st') F0 H0 σ0 fp0 D (loopN w.item w.fin f body (w.n - i) i ρ),⟨w.n,by simp,Nat.zero_le _,ρ,F,fp,s,x,ag,g,by simpa using o⟩,?_⟩
 rintro i m σ H ⟨rfl,hi,ρ,F,fp,s,x,ag,g,o⟩
 by_cases lt:i < w.n
 ·right
  obtain ⟨r,hr⟩:∃ r,w.n - i = r + 1:=⟨w.n - i - 1,by omega⟩
  rw [hr] at o
  simp only [loopN] at o
  cases c:w.item i ρ with
  | none => rw [c] at o; exact o.elim
  | some t =>
   rw [c] at o
   obtain ⟨go,y⟩:=wk.step lt s g c
   refine ⟨go,fun σ' H' => ∃ ρ F fp,Sim K F H' σ' ρ fp∧Ext F0 H0 fp0 F H' fp []∧Ag (st++st') σ0 σ'∧Gd (i + 1) F H' σ' fp∧OutS K W (st++st') F0 H0 σ0 fp0 D (loopN w.item w.fin f body r (i + 1) ρ),fun σ' H' h => ⟨r,by omega,by omega,lt,?_⟩,fun v H1 hy => ?_⟩
   ·have e:w.n - (i + 1) = r:=by omega
    rw [e]; exact h
   obtain ⟨F1,A,⟨e1,e2,e3,e4⟩,m1,okA,nxt⟩:=y v H1 hy
   have s1:=s.grow e1 e2 e3 e4
   have x1:Ext F H fp F1 H1 fp []:=Ext.grow e1 e2 e4 fun a z => absurd z (by simp)
   simp only at o
   cases c2:f t ρ with
   | none => rw [c2] at o; exact o.elim
   | some ρ1 =>
    rw [c2] at o
    simp only at o
    refine ⟨ρ,F1,fp,t,A,ρ1,s1,m1,c2,fun σ2 fp2 s2 h2 g2 => ⟨ρ1,F1,fp2,s2,?_⟩⟩
    have x01:Ext F0 H0 fp0 F1 H1 fp2 []:=by
     refine ⟨(x.trans x1).keep,(x.trans x1).fsub,(x.trans x1).fnew,fun b z => ?_⟩
     rcases z with z | ⟨j,z⟩
     ·simp at z
     ·rcases h2 b j z with y | y
      ·exact (x.trans x1).own b (.inr y)
      ·exact okA b y
    have ag2:Ag (st++st') σ0 σ2:=(ag.trans g2).mono fun j z => by
     rcases List.mem_append.mp z with z | z
     ·exact z
     ·exact List.mem_append_left _ z
    have gd:Gd (i + 1) F1 H1 σ2 fp2:=nxt fp2 σ2 h2 fun j hj => g2.2 j (lsn hj).1
    have nxt':∀ ρ2,OutS K W (st++st') F0 H0 σ0 fp0 D (loopN w.item w.fin f body r (i + 1) ρ2)→∀ σ3 F3 H3 fp3,Sim K F3 H3 σ3 ρ2 fp3→Ext F1 H1 fp2 F3 H3 fp3 []→Ag st' σ2 σ3 →
      ∃ ρ F fp,Sim K F H3 σ3 ρ fp∧Ext F0 H0 fp0 F H3 fp []∧Ag (st++st') σ0 σ3∧Gd (i + 1) F H3 σ3 fp∧OutS K W (st++st') F0 H0 σ0 fp0 D (loopN w.item w.fin f body r (i + 1) ρ):=fun ρ2 o σ3 F3 H3 fp3 s3 x3 g3 =>
     ⟨ρ2,F3,fp3,s3,x01.trans x3,(ag2.trans g3).mono fun j z => by
      rcases List.mem_append.mp z with z | z
      ·exact z
      ·exact List.mem_append_right _ z,wk.on gd s2 s3 x3 fun j hj => g3.2 j (lsn hj).2,o⟩
    cases c3:body ρ1 with
    | nx ρ2 => rw [c3] at o; exact nxt' ρ2 o
    | ct ρ2 => rw [c3] at o; exact nxt' ρ2 o
    | rt t2 ρ2 =>
     rw [c3] at o
     exact fun v σ' F' H' fp' B s m y g' => o.shift x01 ag2 v σ' F' H' fp' B s m y (g'.mono fun j z => List.mem_append_right _ z)
    | ex c' u ρ2 =>
     rw [c3] at o
     exact fun v σ' F' H' fp' B s m y g' => o.shift x01 ag2 v σ' F' H' fp' B s m y (g'.mono fun j z => List.mem_append_right _ z)
    | bad => rw [c3] at o; exact o
 ·left
  have e:i = w.n:=by omega
  subst e
  simp only [Nat.sub_self,loopN] at o
  split at o
  ·rename_i hf
   exact ⟨wk.stop s g hf,o σ F H fp s x ag⟩
  ·exact o.elim
end
end Hu
namespace Hu
open PySem L2
section
variable {X:Cx} {cls:Str→Addr} {W:XW} {e a b c tg iter:Expr} {pos:Pos} {oa ob oc o:Opd} {x:Str} {p:Pos} {st st':List Nat} {g g':SG} {body:List Stmt}
theorem ds_for {it:G It0} {f:T→Rho→Option Rho} (hp:PassesOwn (model X.prog X.w) X.A X.env X.xe) (hc:X.calm = true) (hi:DI X cls W tg iter it) (hg:DG X cls tg f st) (hb:DSs X cls W body st' g)
  (hs:∀ x,foldedSetIterable iter X.env x = pure x):DS X cls W (.For tg iter body [] pos) (st++st') (sFor (st++st') it f g) :=
 (ps_for hp hc hi hg hb hs).imp fun D σ H q => by
  obtain ⟨ρ,F,fp,s,q⟩:=q
  refine ⟨ρ,F,fp,s,OutR.imp (OutS.run q) (Ext.refl F H fp) fun w ρ' _ q J F' H' fp' Gd s' x wk g0 => ?_⟩
  obtain ⟨A,x⟩:=x
  split at q
  ·rename_i hd
   exact loop_ok wk hd s' x.nil (Ag.refl _ _) g0 q
  ·exact q.elim
def whileN (c:G Bool) (body:SG):Nat→SG
 | 0,_ => .bad
 | n + 1,ρ => (c ρ).s fun k ρ1 => if k = true then match body ρ1 with
   | .nx ρ2 => whileN c body n ρ2
   | .ct ρ2 => whileN c body n ρ2
   | o => o
  else .nx ρ1
def isBad:SOut→Bool
 | .bad => true
 | _ => false
theorem whileN_mono {c:G Bool} {body:SG}:∀ {n:Nat} {ρ:Rho},isBad (whileN c body n ρ) = false→∀ m,whileN c body (n + m) ρ = whileN c body n ρ
 | 0,ρ,h,m => by simp [whileN,isBad] at h
 | n + 1,ρ,h,m => by
  rw [show n + 1 + m = (n + m) + 1 by omega]
  simp only [whileN] at h ⊢
  cases q:c ρ with
  | ex _ _ _ => rfl
  | bad => rfl
  | ok k ρ1 =>
   rw [q] at h
   simp only [Out.s] at h ⊢
   cases k with
   | false => rfl
   | true =>
    simp only [if_true] at h ⊢
    cases q2:body ρ1 with
    | nx ρ2 => rw [q2] at h; exact whileN_mono h m
    | ct ρ2 => rw [q2] at h; exact whileN_mono h m
    | rt _ _ => rfl
    | ex _ _ _ => rfl
    | bad => rfl
open Classical in
noncomputable def sWhile (c:G Bool) (body:SG):SG:=fun ρ => if h:∃ n,isBad (whileN c body n ρ) = false then whileN c body (choose h) ρ else .bad
theorem sWhile_eq {c:G Bool} {body:SG} {n:Nat} {ρ:Rho} (h:isBad (whileN c body n ρ) = false):sWhile c body ρ = whileN c body n ρ:=by
 have ex:∃ n,isBad (whileN c body n ρ) = false:=⟨n,h⟩
 unfold sWhile
 rw [dif_pos ex]
 have h2:=Classical.choose_spec ex
 have e1:=whileN_mono h (Classical.choose ex)
 have e2:=whileN_mono h2 n
 rw [← e1,Nat.add_comm,e2]
theorem sWhile_out {c:G Bool} {body:SG} {ρ:Rho} {K:Par} {F H:Hp} {σ:St} {fp:Nat→List Addr} {D:Ends} (o:OutS K W st F H σ fp D (sWhile c body ρ)):∃ n,OutS K W st F H σ fp D (whileN c body n ρ):=by
 unfold sWhile at o
 split at o
 ·exact ⟨_,o⟩
 ·exact o.elim
theorem OutS.part {K:Par} {F H:Hp} {σ:St} {fp:Nat→List Addr} {D D':Ends} {o:SOut} (h:OutS K W st F H σ fp D o) (i:∀ j,j∈st'→j∈st) (hr:D.rt = D'.rt) (hn:∀ ρ,o≠.nx ρ) (hc:∀ ρ,o≠.ct ρ):OutS K W st' F H σ fp D' o:=by
 cases o with
 | nx ρ' => exact absurd rfl (hn ρ')
 | ct ρ' => exact absurd rfl (hc ρ')
 | rt t ρ' => exact fun v σ' F' H' fp' B s m y g' => hr ▸ (h v σ' F' H' fp' B s m y (g'.mono i))
 | ex c f ρ' => exact fun d σ' F' H' fp' B s m y g' => h d σ' F' H' fp' B s m y (g'.mono i)
 | bad => exact h
theorem ds_while {k:G Bool} (hp:PassesOwn (model X.prog X.w) X.A X.env X.xe) (hc:DT X cls W c k) (hb:DSs X cls W body st g):DS X cls W (.While c body [] pos) st (sWhile k g) :=
 (ps_while hp hc hb).imp fun D σ H q => by
  obtain ⟨ρ,F,fp,s,q⟩:=q
  obtain ⟨n,q⟩:=sWhile_out q
  refine ⟨fun m σ1 H1 => ∃ ρ1 F1 fp1,Sim (Px X cls) F1 H1 σ1 ρ1 fp1∧Ext F H fp F1 H1 fp1 []∧Ag st σ σ1∧OutS (Px X cls) W st F H σ fp D (whileN k g m ρ1),⟨n,ρ,F,fp,s,Ext.refl F H fp,Ag.refl _ _,q⟩,?_⟩
  rintro m σ1 H1 ⟨ρ1,F1,fp1,s1,x1,g1,q⟩
  have tr:∀ {σ2:St},Ag st σ1 σ2→Ag st σ σ2:=fun g2 => (g1.trans g2).mono fun j z => by rcases List.mem_append.mp z with z | z <;> exact z
  cases m with
  | zero => exact q.elim
  | succ m =>
   simp only [whileN] at q
   refine ⟨ρ1,F1,fp1,s1,OutR.imp (OutS.run (q.shift x1 g1)) (Ext.refl F1 H1 fp1) fun kk ρ2 hk q2 F2 H2 fp2 s2 x2 => ?_⟩
   rw [hk] at q
   simp only [Out.s] at q
   cases kk with
   | false =>
    simp only [Bool.false_eq_true,if_false] at q
    exact iteF (q σ1 F2 H2 fp2 s2 (x1.trans x2) g1)
   | true =>
    simp only [if_true] at q
    refine iteT ⟨fun σ3 H3 => ∃ ρ3 F3 fp3,Sim (Px X cls) F3 H3 σ3 ρ3 fp3∧Ext F H fp F3 H3 fp3 []∧Ag st σ σ3∧OutS (Px X cls) W st F H σ fp D (whileN k g m ρ3),fun σ' H' h => ⟨m,Nat.lt_succ_self m,h⟩,ρ2,F2,fp2,s2,?_⟩
    cases c3:g ρ2 with
    | nx ρ3 => rw [c3] at q; exact fun σ3 F3 H3 fp3 s3 x3 g3 => ⟨ρ3,F3,fp3,s3,(x1.trans x2).trans x3,tr g3,q⟩
    | ct ρ3 => rw [c3] at q; exact fun σ3 F3 H3 fp3 s3 x3 g3 => ⟨ρ3,F3,fp3,s3,(x1.trans x2).trans x3,tr g3,q⟩
    | rt t3 ρ3 => rw [c3] at q; exact OutS.part (q.shift (x1.trans x2) g1) (fun _ z => z) rfl (fun _ z => by cases z) (fun _ z => by cases z)
    | ex c' u ρ3 => rw [c3] at q; exact OutS.part (q.shift (x1.trans x2) g1) (fun _ z => z) rfl (fun _ z => by cases z) (fun _ z => by cases z)
    | bad => rw [c3] at q; exact q.elim
end
end Hu
namespace Hu
open PySem L2
theorem wipe_get (σ:St) (j:Nat):∀ vs:List Nat,(wipe σ vs)[j]? = if j∈vs then (if j < σ.length then some none else none) else σ[j]?
 | [] => by simp [wipe]
 | v :: vs => by
  simp only [wipe]
  by_cases c:v = j
  ·subst c
   rw [List.getElem?_set,if_pos rfl]
   simp [wipe_length]
  ·rw [List.getElem?_set_ne c,wipe_get σ j vs]
   have:(j∈v :: vs)↔j∈vs:=by simp [Ne.symm c]
   by_cases d:j∈vs
   ·rw [if_pos d,if_pos (this.mpr d)]
   ·rw [if_neg d,if_neg (fun z => d (this.mp z))]
theorem wipe_eq {σ σ':St} {vs:List Nat} (hl:σ'.length = σ.length) (h:∀ j,j∉vs→σ'[j]? = σ[j]?):wipe σ' vs = wipe σ vs:=by
 apply List.ext_getElem?
 intro j
 rw [wipe_get,wipe_get,hl]
 by_cases d:j∈vs
 ·rw [if_pos d,if_pos d]
 ·rw [if_neg d,if_neg d,h j d]
def wipeR (ρ:Rho):List Nat→Rho
 | [] => ρ
 | v :: vs => (wipeR ρ vs).set v none
theorem wipeR_len (ρ:Rho):∀ vs,(wipeR ρ vs).length = ρ.length
 | [] => rfl
 | v :: vs => by simp [wipeR,wipeR_len ρ vs]
theorem wipeR_get (ρ:Rho) (j:Nat) (t:T):∀ {vs:List Nat},(wipeR ρ vs)[j]? = some (some t)→ρ[j]? = some (some t)∧j∉vs
 | [],h => ⟨h,by simp⟩
 | v :: vs,h => by
  simp only [wipeR] at h
  by_cases c:v = j
  ·subst c
   rw [List.getElem?_set,if_pos rfl] at h
   split at h <;> cases h
  ·rw [List.getElem?_set_ne c] at h
   obtain ⟨h1,h2⟩:=wipeR_get ρ j t h
   exact ⟨h1,by simp only [List.mem_cons,not_or]; exact ⟨Ne.symm c,h2⟩⟩
section
variable {K:Par} {F H:Hp} {σ:St} {ρ:Rho} {fp:Nat→List Addr}
theorem Sim.wiped (s:Sim K F H σ ρ fp) (vs:List Nat):Sim K F H (wipe σ vs) (wipeR ρ vs) fp:=by
 refine ⟨by rw [wipe_length,wipeR_len,s.len],fun i t h => ?_,s.dj,s.ff,s.mt,s.sub⟩
 obtain ⟨h1,h2⟩:=wipeR_get ρ i t h
 obtain ⟨v,e,r⟩:=s.sl i t h1
 exact ⟨v,by rw [wipe_get,if_neg h2]; exact e,r⟩
def plusF (fp:Nat→List Addr) (N:Nat) (B:List Addr):Nat→List Addr:=fun j => if j = N then fp j++B else fp j
theorem mem_plus {N:Nat} {B:List Addr} {j:Nat} {a:Addr}:a∈plusF fp N B j↔a∈fp j∨(j = N∧a∈B):=by
 unfold plusF
 by_cases c:j = N
 ·rw [if_pos c]; simp [c]
 ·rw [if_neg c]; simp [c]
theorem Sim.plus (s:Sim K F H σ ρ fp) {v:V} {t:T} {B:List Addr} (m:Tmp K F H fp v t B) {N:Nat} (hN:σ.length≤N):Sim K F H σ ρ (plusF fp N B):=by
 refine ⟨s.len,fun i t h => ?_,fun i j n a ha hb => ?_,fun j a h => ?_,fun j a h => ?_,s.sub⟩
 ·have l:i < ρ.length:=(List.getElem?_eq_some_iff.mp h).1
  obtain ⟨v,e,r⟩:=s.sl i t h
  refine ⟨v,e,?_⟩
  unfold plusF
  rw [if_neg (by have:=s.len; omega)]; exact r
 ·rcases mem_plus.mp ha with ha | ⟨e1,ha⟩
  ·rcases mem_plus.mp hb with hb | ⟨e2,hb⟩
   ·exact s.dj i j n a ha hb
   ·exact m.dj a hb i ha
  ·rcases mem_plus.mp hb with hb | ⟨e2,hb⟩
   ·exact m.dj a ha j hb
   ·exact n (e1.trans e2.symm)
 ·rcases mem_plus.mp h with h | ⟨_,h⟩
  ·exact s.ff j a h
  ·exact m.ff a h
 ·rcases mem_plus.mp h with h | ⟨_,h⟩
  ·exact s.mt j a h
  ·exact m.r.live a h
theorem Ext.plus {F' H':Hp} {fp':Nat→List Addr} {B B' C:List Addr} {N:Nat} (x:Ext F H fp F' H' fp' C) (h:∀ a,a∈B'→a∈B∨a∈C):Ext F H (plusF fp N B) F' H' (plusF fp' N B') [] :=
 ⟨fun a o e n => x.keep a o e fun i z => n i (mem_plus.mpr (.inl z)),x.fsub,fun a o e => by
  rcases x.fnew a o e with z | z | z | ⟨i,z⟩
  ·exact .inl z
  ·exact .inr (.inl z)
  ·exact .inr (.inr (.inl z))
  ·exact .inr (.inr (.inr ⟨i,mem_plus.mpr (.inl z)⟩)),fun a z => by
  have up:((∃ i,a∈fp i)∨H a = none)→(∃ i,a∈plusF fp N B i)∨H a = none:=fun q => by
   rcases q with ⟨i,q⟩ | q
   ·exact .inl ⟨i,mem_plus.mpr (.inl q)⟩
   ·exact .inr q
  rcases z with z | ⟨i,z⟩
  ·simp at z
  ·rcases mem_plus.mp z with z | ⟨_,z⟩
   ·exact up (x.own a (.inr ⟨i,z⟩))
   ·rcases h a z with z | z
    ·exact .inl ⟨N,mem_plus.mpr (.inr ⟨rfl,z⟩)⟩
    ·exact up (x.own a (.inl z))⟩
theorem Ext.poke {F' H':Hp} {fp':Nat→List Addr} {C:List Addr} {D:Addr} {o:HO} (x:Ext F H fp F' H' fp' C) (h:(∃ i,D∈fp i)∨H D = none):Ext F H fp F' (upd H' D o) fp' C :=
 ⟨fun a u e n => by
  have:a≠D:=fun c => by
   subst c
   rcases h with ⟨i,h⟩ | h
   ·exact n i h
   ·rw [h] at e; cases e
  rw [upd_ne this]; exact x.keep a u e n,x.fsub,x.fnew,x.own⟩
theorem Sim.ghost (s:Sim K F H σ ρ fp) {vs:List Nat} {σ0:St} {ρ0:Rho} (hl:σ0.length = σ.length) (hr:ρ0.length = ρ.length) (hw:∀ j,j∉vs→σ0[j]? = σ[j]?) (hρ:∀ j t,ρ0[j]? = some (some t)→(j∉vs∧ρ[j]? = some (some t))∨(j∈vs∧∃ x v,t = .d x∧σ0[j]? = some (some v)∧Fz K F v x)) :
  Sim K F H σ0 ρ0 (fun j => if j∈vs then [] else fp j):=by
 refine ⟨by rw [hl,hr,s.len],fun i t h => ?_,fun i j n a ha hb => ?_,fun j a h => ?_,fun j a h => ?_,s.sub⟩
 ·rcases hρ i t h with ⟨n,e⟩ | ⟨m,x,v,rfl,e,f⟩
  ·obtain ⟨v,e2,r⟩:=s.sl i t e
   exact ⟨v,by rw [hw i n]; exact e2,by rw [if_neg n]; exact r⟩
  ·exact ⟨v,e,by rw [if_pos m]; exact .d f⟩
 ·split at ha
  ·simp at ha
  ·split at hb
   ·simp at hb
   ·exact s.dj i j n a ha hb
 ·split at h
  ·simp at h
  ·exact s.ff j a h
 ·split at h
  ·simp at h
  ·exact s.mt j a h
end
def backR (ρ0 ρ:Rho) (vs:List Nat):Rho:=ρ.mapIdx fun j u => if j∈vs then (match getS ρ0 j with
 | some (.d x) => some (.d x)
 | _ => none) else u
theorem backR_get {ρ0 ρ:Rho} {vs:List Nat} {j:Nat} {t:T} (h:(backR ρ0 ρ vs)[j]? = some (some t)):(j∉vs∧ρ[j]? = some (some t))∨(j∈vs∧∃ x,t = .d x∧ρ0[j]? = some (some (.d x))):=by
 unfold backR at h
 rw [List.getElem?_mapIdx] at h
 cases q:ρ[j]? with
 | none => rw [q] at h; simp at h
 | some u =>
  rw [q] at h
  simp only [Option.map_some,Option.some.injEq] at h
  by_cases d:j∈vs
  ·rw [if_pos d] at h
   right
   refine ⟨d,?_⟩
   split at h
   ·rename_i x e
    cases h
    exact ⟨x,rfl,getS_some e⟩
   ·cases h
  ·rw [if_neg d] at h
   exact .inl ⟨d,by rw [h]⟩
section
variable {X:Cx} {cls:Str→Addr} {elt c tg iter:Expr} {ifs:List Expr} {pos:Pos} {o:Opd} {st:List Nat} {scope:Scope}
abbrev Wno:XW:=fun _ _ _ _ => False
abbrev DTs (X:Cx) (cls:Str→Addr) (es:List Expr) (g:G Bool):Prop:=PTs X es (tT (Px X cls) Wno g)
theorem _root_.L2.PTs.imp {X:Cx} {e:List Expr} {t t':TT} (h:PTs X e t) (i:∀ σ H Q,t' σ H Q→t σ H Q):PTs X e t':=⟨fun pins s σ H Q I q => h.run pins s σ H Q I (i σ H Q q)⟩
def gYes:G Bool:=fun ρ => .ok true ρ
theorem dts_nil:DTs X cls [] gYes:=pts_nil.imp fun σ H Q q => by
 obtain ⟨ρ,F,fp,s,q⟩:=q
 exact q F H fp s (Ext.refl F H fp)
theorem dts_one {g:G Bool} (h:DT X cls Wno c g):DTs X cls [c] g:=pts_one h
def lcN (item:Nat→Rho→Option T) (fin:Rho→Bool) (f:T→Rho→Option Rho) (vs:List Nat) (test:G Bool) (elt:G T):Nat→Nat→List T→Rho→Option (List T × Rho)
 | 0,_,acc,ρ => if fin ρ = true then some (acc,ρ) else none
 | n + 1,k,acc,ρ => match item k ρ with
  | none => none
  | some t => match f t ρ with
   | none => none
   | some ρ1 => match test ρ1 with
    | .ok true ρ2 => match elt ρ2 with
     | .ok y ρ3 => if acc.length < sizeLine then lcN item fin f vs test elt n (k + 1) (acc++[y]) (wipeR ρ3 vs) else none
     | _ => none
    | .ok false ρ2 => lcN item fin f vs test elt n (k + 1) acc (wipeR ρ2 vs)
    | _ => none
def gLc (vs:List Nat) (it:G It0) (f:T→Rho→Option Rho) (test:G Bool) (elt:G T):G T:=fun ρ => (it ρ).bind fun w ρ1 => if disj w.ls vs = true then match lcN w.item w.fin f vs test elt w.n 0 [] (wipeR ρ1 vs) with
 | some (ts,ρ2) => .ok (.lst ts) (backR ρ1 ρ2 vs)
 | none => .bad
 else .bad
theorem RA.append {K:Par} {F H:Hp}:∀ {vs:List V} {ts:List T} {A:List Addr} {v:V} {t:T} {B:List Addr},RA K F H vs ts A→R K F H v t B→(∀ a,a∈A→a∉B)→RA K F H (vs++[v]) (ts++[t]) (A++B)
 | _,_,_,v,t,B,.nil,r,_ => by
  have:=RA.cons r .nil (by simp)
  simpa using this
 | _,_,_,v,t,B,.cons (A:=A1) (B:=A2) r1 r2 n,r,d => by
  have:=RA.cons r1 (RA.append r2 r fun a z => d a (List.mem_append_right _ z)) fun a z w => by
   rcases List.mem_append.mp w with w | w
   ·exact n a z w
   ·exact d a (List.mem_append_left _ z) w
  simpa using this
theorem Tmp.push {K:Par} {F H:Hp} {fp:Nat→List Addr} {σ:St} {ρ:Rho} {D:Addr} {ts:List T} {B C:List Addr} {y:V} {t:T} (s:Sim K F H σ ρ fp) (m:Tmp K F H fp (.ref D) (.lst ts) B) (my:Tmp K F H fp y t C) (nb:∀ a,a∈B→a∉C) :
  ∃ acc,H D = some (.lst acc)∧acc.length = ts.length∧D∈B∧Sim K F (upd H D (.lst (acc++[y]))) σ ρ fp∧Tmp K F (upd H D (.lst (acc++[y]))) fp (.ref D) (.lst (ts++[t])) (B++C):=by
 obtain ⟨r,dj,ff⟩:=m
 cases r with
 | @lst _ acc _ A h1 h2 n =>
  have dn:D∈D :: A:=List.mem_cons_self
  have dC:D∉C:=nb D dn
  have tu:TupSub H (upd H D (.lst (acc++[y]))):=fun a xs h => by
   by_cases c:a = D
   ·subst c; rw [h1] at h; cases h
   ·rw [upd_ne c]; exact h
  have stay:∀ {E:List Addr},D∉E→∀ a,a∈E→(upd H D (.lst (acc++[y]))) a = H a:=fun ne a h => upd_ne (fun e => ne (e ▸ h))
  refine ⟨acc,h1,h2.length,dn,⟨s.len,fun i t h => ?_,s.dj,s.ff,fun i a h => ?_,fun a o h => ?_⟩,⟨?_,fun a h => ?_,fun a h => ?_⟩⟩
  ·obtain ⟨v,e,r⟩:=s.sl i t h
   exact ⟨v,e,r.frame (Same.refl F) tu (stay (dj D dn i))⟩
  ·obtain ⟨o,e,q⟩:=s.mt i a h
   exact ⟨o,by rw [stay (dj D dn i) a h]; exact e,q⟩
  ·have:a≠D:=fun e => by subst e; rw [ff a dn] at h; cases h
   rw [upd_ne this]; exact s.sub a o h
  ·exact .lst upd_same (RA.append (h2.frame (Same.refl F) tu (stay n)) (my.r.frame (Same.refl F) tu (stay dC)) fun a h => nb a (List.mem_cons_of_mem _ h)) (by simp [n,dC])
  ·rcases List.mem_append.mp h with h | h
   ·exact dj a h
   ·exact my.dj a h
  ·rcases List.mem_append.mp h with h | h
   ·exact ff a h
   ·exact my.ff a h
theorem Ext.less {F H F' H':Hp} {fp fp' fp2:Nat→List Addr} {A:List Addr} (x:Ext F H fp F' H' fp' A) (h:∀ a i,a∈fp2 i→∃ j,a∈fp' j):Ext F H fp F' H' fp2 A :=
 ⟨x.keep,x.fsub,x.fnew,fun a z => by
  rcases z with z | ⟨i,z⟩
  ·exact x.own a (.inl z)
  ·exact x.own a (.inr (h a i z))⟩
theorem lc_ok {K:Par} {J:It} {w:It0} {Gd:Nat→Hp→Hp→St→(Nat→List Addr)→Prop} {F0 H0:Hp} {σ:St} {fp0:Nat→List Addr} {f:T→Rho→Option Rho} {test:G Bool} {elt:G T} {vs:List Nat}
  (wk:Wk K J w (fun b => (∃ i,b∈fp0 i)∨H0 b = none) Gd) (hd:disj w.ls vs = true) (hst:∀ j,j∈st→j∈vs) {F1 H1:Hp} {ρ1:Rho} {fp1:Nat→List Addr} (s:Sim K F1 H1 σ ρ1 fp1) (x:Ext F0 H0 fp0 F1 H1 fp1 []) (g:Gd 0 F1 H1 σ fp1) {us:List T} {ρe:Rho}
  (o:lcN w.item w.fin f vs test elt w.n 0 [] (wipeR ρ1 vs) = some (us,ρe)) {Q:VK} (q:Post K F0 H0 σ fp0 Q (.lst us) (backR ρ1 ρe vs)) {D:Addr} (hD:H1 D = none) :
  ∃ Wd:Nat→Nat→Hp→Prop,(∃ m,Wd 0 m (upd H1 D (.lst [])))∧∀ i m H,Wd i m H→(J.stop i H∧Q (.ref D) H)∨(J.go i H∧∃ Nx:Hp→Prop,(∀ H',Nx H'→∃ m',m' < m∧Wd (i + 1) m' H') ∧
   ∀ x H',J.yld i H x H'→tN K f st x (wipe σ vs) H' fun σ2 H2 => wipe σ2 vs = wipe σ vs∧tT K Wno test σ2 H2 fun b H3 => if b = true then tG K Wno elt σ2 H3 fun y H4 => ∃ acc,H4 D = some (.lst acc)∧acc.length < sizeLine∧Nx (upd H4 D (.lst (acc++[y]))) else Nx H3):=by
 have s1:=s
 have lsn:∀ {i:Nat},i∈w.ls→i∉vs:=fun {i} h => by
  have:=List.all_eq_true.mp hd i h
  simpa using this
 have hD0:(∃ i,D∈fp0 i)∨H0 D = none:=by
  cases c:H0 D with
  | none => exact .inr rfl
  | some u =>
   by_cases e:∃ i,D∈fp0 i
   ·exact .inl e
   ·have:=x.keep D u c fun i z => e ⟨i,z⟩
    rw [hD] at this; cases this
 let I:Nat→Hp→Prop:=fun i H => ∃ ρ F fp ts B,Sim K F H (wipe σ vs) ρ fp∧Ext F0 H0 fp0 F H fp B∧Tmp K F H fp (.ref D) (.lst ts) B∧Same F1 F∧D∈B∧Gd i F H (wipe σ vs) (plusF fp σ.length B)∧lcN w.item w.fin f vs test elt (w.n - i) i ts ρ = some (us,ρe)
 refine ⟨fun i m H => m = w.n - i∧i≤w.n∧I i H,⟨w.n,by simp,Nat.zero_le _,wipeR ρ1 vs,F1,fp1,[],[D],?_⟩,?_⟩
 ·have s2:Sim K F1 (upd H1 D (.lst [])) σ ρ1 fp1:=s.laid hD
  have m2:Tmp K F1 (upd H1 D (.lst [])) fp1 (.ref D) (.lst []) [D]:=⟨.lst upd_same .nil (by simp),fun a h i z => by
   have:=List.mem_singleton.mp h
   subst this
   exact live_ne (s.mt i) hD z,fun a h => by
   have:=List.mem_singleton.mp h
   subst this
   exact s.sub.free hD⟩
  have x2:Ext F1 H1 fp1 F1 (upd H1 D (.lst [])) fp1 [D]:=Ext.laid hD (by simpa using hD)
  refine ⟨s2.wiped vs,(x.trans x2).more fun a h => .inl h,m2,Same.refl F1,by simp,?_,by simpa using o⟩
  have pw:Sim K F1 (upd H1 D (.lst [])) (wipe σ vs) (wipeR ρ1 vs) (plusF fp1 σ.length [D]):=(s2.wiped vs).plus m2 (by rw [wipe_length]; exact Nat.le_refl _)
  refine wk.on g s pw ⟨x2.keep,x2.fsub,x2.fnew,fun a z => ?_⟩ fun j hj => by rw [wipe_get,if_neg (lsn hj)]
  rcases z with z | ⟨i,z⟩
  ·simp at z
  ·rcases mem_plus.mp z with z | ⟨_,z⟩
   ·exact .inl ⟨i,z⟩
   ·have:=List.mem_singleton.mp z
    subst this; exact .inr hD
 ·rintro i m H ⟨rfl,hi,ρ,F,fp,ts,B,s,x,mB,hF,hDB,g,o⟩
  have sp:=s.plus mB (N:=σ.length) (by rw [wipe_length]; exact Nat.le_refl _)
  by_cases lt:i < w.n
  ·right
   obtain ⟨r,hr⟩:∃ r,w.n - i = r + 1:=⟨w.n - i - 1,by omega⟩
   have hr':w.n - (i + 1) = r:=by omega
   rw [hr] at o
   simp only [lcN] at o
   cases c:w.item i ρ with
   | none => rw [c] at o; cases o
   | some t =>
   rw [c] at o
   simp only at o
   cases c2:f t ρ with
   | none => rw [c2] at o; cases o
   | some ρf =>
   rw [c2] at o
   simp only at o
   obtain ⟨go,y⟩:=wk.step lt sp g c
   refine ⟨go,I (i + 1),fun H' h => ⟨r,by omega,hr'.symm,lt,h⟩,fun v Hy hy => ?_⟩
   obtain ⟨F2,A2,⟨e1,e2,e3,e4⟩,m2,okA,nxt⟩:=y v Hy hy
   have s2:=s.grow e1 e2 e3 e4
   have x2:Ext F H fp F2 Hy fp []:=Ext.grow e1 e2 e4 fun a z => absurd z (by simp)
   have mB2:=(mB.on s x2 s2).1
   refine ⟨ρ,F2,fp,t,A2,ρf,s2,⟨m2.r,fun a h i z => m2.dj a h i (mem_plus.mpr (.inl z)),m2.ff⟩,c2,fun σ3 fp3 s3 c3 g3 => ?_⟩
   have hl3:σ3.length = σ.length:=g3.1.trans (wipe_length σ vs)
   have weq:wipe σ3 vs = wipe σ vs:=wipe_eq hl3 fun j hj => by
    rw [g3.2 j (fun z => hj (hst j z)),wipe_get,if_neg hj]
   refine ⟨weq,?_⟩
   have x03:Ext F0 H0 fp0 F2 Hy fp3 B:=by
    have z:=x.trans x2
    refine ⟨z.keep,z.fsub,z.fnew,fun a h => ?_⟩
    rcases h with h | ⟨i,h⟩
    ·exact x.own a (.inl h)
    ·rcases c3 a i h with h | h
     ·exact x.own a (.inr h)
     ·exact okA a h
   have m3:Tmp K F2 Hy fp3 (.ref D) (.lst ts) B:=⟨mB2.r,fun a h i z => by
    rcases c3 a i z with ⟨j,z⟩ | z
    ·exact mB.dj a h j z
    ·exact m2.dj a z σ.length (mem_plus.mpr (.inr ⟨rfl,h⟩)),mB2.ff⟩
   have s3p:=s3.plus m3 (N:=σ.length) (by rw [hl3]; exact Nat.le_refl _)
   have gd3:Gd (i + 1) F2 Hy σ3 (plusF fp3 σ.length B):=nxt _ σ3 (fun b i h => by
    rcases mem_plus.mp h with h | ⟨_,h⟩
    ·rcases c3 b i h with ⟨j,z⟩ | z
     ·exact .inl ⟨j,mem_plus.mpr (.inl z)⟩
     ·exact .inr z
    ·exact .inl ⟨σ.length,mem_plus.mpr (.inr ⟨rfl,h⟩)⟩) fun j hj => g3.2 j fun z => lsn hj (hst j z)
   have lsw:∀ j,j∈w.ls→(wipe σ vs)[j]? = σ3[j]?:=fun j hj => by
    rw [← weq,wipe_get,if_neg (lsn hj)]
   cases c4:test ρf with
   | bad => rw [c4] at o; cases o
   | ex _ _ _ => rw [c4] at o; cases o
   | ok k ρ2 =>
   rw [c4] at o
   refine ⟨ρf,F2,fp3,s3,?_⟩
   rw [c4]
   intro F4 H4 fp4 s4 x4
   have m4:=(m3.on s3 x4 s4).1
   cases k with
   | false =>
    simp only at o
    refine iteF ⟨wipeR ρ2 vs,F4,fp4,ts,B,weq ▸ s4.wiped vs,(x03.trans x4).more fun a h => .inr (x03.own a (.inl h)),m4,fun a o h => x4.fsub a o (e2 a o (hF a o h)),hDB,?_,by rw [hr']; exact o⟩
    exact wk.on gd3 s3p ((weq ▸ s4.wiped vs:Sim K F4 H4 (wipe σ vs) (wipeR ρ2 vs) fp4).plus m4 (by rw [wipe_length]; exact Nat.le_refl _)) (x4.plus fun a h => .inl h) lsw
   | true =>
    simp only at o
    refine iteT ⟨ρ2,F4,fp4,s4,?_⟩
    cases c5:elt ρ2 with
    | bad => rw [c5] at o; cases o
    | ex _ _ _ => rw [c5] at o; cases o
    | ok ty ρ3 =>
    rw [c5] at o
    simp only at o
    split at o
    ·rename_i hz
     intro yv F5 H5 fp5 C s5 my x5
     obtain ⟨m5,nb⟩:=m4.on s4 x5 s5
     obtain ⟨acc,h1,h2,h3,s6,m6⟩:=Tmp.push s5 m5 my nb
     have x06:Ext F0 H0 fp0 F5 (upd H5 D (.lst (acc++[yv]))) fp5 (B++C):=(((x03.trans x4).trans x5).more fun a h => by
      (rcases List.mem_append.mp h with h | h)
      ·exact .inr (x03.own a (.inl h))
      ·exact .inl h).poke hD0
     refine ⟨acc,h1,by rw [h2]; exact hz,wipeR ρ3 vs,F5,fp5,ts++[ty],B++C,weq ▸ s6.wiped vs,x06,m6,fun a o h => x5.fsub a o (x4.fsub a o (e2 a o (hF a o h))),List.mem_append_left _ hDB,?_,by rw [hr']; exact o⟩
     refine wk.on gd3 s3p ((weq ▸ s6.wiped vs:Sim K F5 _ (wipe σ vs) (wipeR ρ3 vs) fp5).plus m6 (by rw [wipe_length]; exact Nat.le_refl _)) (((x4.trans x5).plus fun a h => ?_).poke (.inl ⟨σ.length,mem_plus.mpr (.inr ⟨rfl,hDB⟩)⟩)) lsw
     exact List.mem_append.mp h
    ·cases o
  ·left
   have e:i = w.n:=by omega
   subst e
   simp only [Nat.sub_self,lcN] at o
   split at o
   ·rename_i hf
    cases o
    refine ⟨wk.stop sp g hf,q (.ref D) F H _ B (s.ghost (σ0:=σ) (ρ0:=backR ρ1 ρe vs) (vs:=vs) (wipe_length σ vs).symm (by simp [backR]) (fun j hj => by rw [wipe_get,if_neg hj]) fun j t h => ?_) ⟨mB.r,fun a h i z => ?_,mB.ff⟩ (x.less fun a i z => ?_)⟩
    ·rcases backR_get h with h | ⟨hj,x',rfl,h9⟩
     ·exact .inl h
     ·exact .inr ⟨hj,x',by
       obtain ⟨v,e,r⟩:=s1.sl j _ h9
       exact ⟨v,rfl,e,r.fz.mono hF⟩⟩
    ·split at z
     ·simp at z
     ·exact mB.dj a h i z
    ·split at z
     ·simp at z
     ·exact ⟨i,z⟩
   ·cases o
theorem tLc_ok {it:G It0} {f:T→Rho→Option Rho} {test:G Bool} {elt:G T} {vs:List Nat} {W:XW} {K:Par} (hst:∀ j,j∈st→j∈vs) {σ:St} {H:Hp} {Q:VK} (q:tG K W (gLc vs it f test elt) σ H Q):tLc (tI K W it) (tN K f st) (tT K Wno test) (tG K Wno elt) vs σ H Q:=by
 obtain ⟨ρ,F,fp,s,q⟩:=q
 refine ⟨ρ,F,fp,s,q.bind.imp (Ext.refl F H fp) fun w ρ1 _ q J F' H' fp' Gd s' x wk g0 D hD => ?_⟩
 obtain ⟨A,x⟩:=x
 split at q
 ·rename_i hd
  split at q
  ·rename_i us ρe o
   exact lc_ok wk hd hst s' x.nil g0 o q hD
  ·exact q.elim
 ·exact q.elim
theorem de_lc {own:List (Str × Nat)} {it:G It0} {f:T→Rho→Option Rho} {test:G Bool} {W:XW} (hc:X.calm = true) (hN:X.N.Nodup) (hi:DI X cls W tg iter it) (ok:BlkOk X.N X.env.scope scope own) (hst:∀ j,j∈st→j∈own.map (·.2))
  (hg:∀ (s:Shared) (H:Hp) (C:Addr) (cl:List (Str × Addr)) (fp:List Addr),DG (X.blk s H scope (compEnvC scope cl C X.env) fp) cls tg f st) (ht:∀ (s:Shared) (H:Hp) (C:Addr) (cl:List (Str × Addr)) (fp:List Addr),DTs (X.blk s H scope (compEnvC scope cl C X.env) fp) cls ifs test)
  (he:∀ (s:Shared) (H:Hp) (C:Addr) (cl:List (Str × Addr)) (fp:List Addr),DE (X.blk s H scope (compEnvC scope cl C X.env) fp) cls Wno elt o) (hs:∀ x,foldedSetIterable iter X.env x = pure x) :
  DE X cls W (.ListComp elt [⟨tg,iter,ifs,0⟩] scope pos) (.val (gLc (own.map (·.2)) it f test o.vg)) :=
 ⟨(pe_lc hc hN hi ok hg ht (fun s H C cl fp => (he s H C cl fp).own) hs).imp fun σ H Q q => tLc_ok hst q,rfl⟩
end
end Hu
namespace Hu
open PySem L2
mutual
def frzOf:T→Option D
 | .d x => some x
 | .lst ts => (frzsOf ts).map .list
 | .tup ts => (frzsOf ts).map .tuple
 | .dK kvs => (frzkOf kvs).map .dict
 | _ => none
def frzsOf:List T→Option (List D)
 | [] => some []
 | t :: ts => match frzOf t,frzsOf ts with
  | some x,some xs => some (x :: xs)
  | _,_ => none
def frzkOf:List (Key × T)→Option (List (D × D))
 | [] => some []
 | (k,t) :: ts => match frzOf t,frzkOf ts with
  | some x,some xs => some ((kD k,x) :: xs)
  | _,_ => none
end
theorem frzkOf_split:∀ {kvs:List (Key × T)} {ds:List (D × D)},frzkOf kvs = some ds→ds.map Prod.fst = kvs.map (fun p => kD p.1)∧frzsOf (kvs.map Prod.snd) = some (ds.map Prod.snd)
 | [],ds,h => by simp [frzkOf] at h; subst h; exact ⟨rfl,rfl⟩
 | (k,t) :: ts,ds,h => by
  simp only [frzkOf] at h
  cases q1:frzOf t with
  | none => rw [q1] at h; simp at h
  | some x =>
   cases q2:frzkOf ts with
   | none => rw [q1,q2] at h; simp at h
   | some xs =>
    rw [q1,q2] at h; simp at h; subst h
    obtain ⟨e1,e2⟩:=frzkOf_split q2
    exact ⟨by simp [e1],by simp [frzsOf,q1,e2]⟩
def Fr (F H:Hp) (B:List Addr):Hp:=fun a => match F a with
 | some o => some o
 | none => match H a with
  | some o => if isT o = true∨a∈B then some o else none
  | none => none
theorem Fr.same {F H:Hp} {B:List Addr}:Same F (Fr F H B):=fun a o h => by
 unfold Fr; rw [h]
theorem Fr.sub {F H:Hp} {B:List Addr} (e:Same F H):Same (Fr F H B) H:=fun a o h => by
 unfold Fr at h
 cases q:F a with
 | some u => rw [q] at h; simp only at h; cases h; exact e a _ q
 | none =>
  rw [q] at h
  simp only at h
  cases q2:H a with
  | none => rw [q2] at h; cases h
  | some u =>
   rw [q2] at h
   simp only at h
   split at h
   ·exact h
   ·cases h
theorem Fr.inv {F H:Hp} {B:List Addr} {a:Addr} {o:HO} (h:Fr F H B a = some o):F a = some o∨(H a = some o∧(isT o = true∨a∈B)):=by
 unfold Fr at h
 cases q:F a with
 | some u => rw [q] at h; simp only at h; cases h; exact .inl rfl
 | none =>
  rw [q] at h
  simp only at h
  cases q2:H a with
  | none => rw [q2] at h; cases h
  | some u =>
   rw [q2] at h
   simp only at h
   split at h
   ·rename_i c; cases h; exact .inr ⟨rfl,c⟩
   ·cases h
theorem Fr.at {F H:Hp} {B:List Addr} {a:Addr} {o:HO} (e:Same F H) (h:H a = some o) (c:isT o = true∨a∈B):Fr F H B a = some o:=by
 unfold Fr
 cases q:F a with
 | some u => simp only; rw [e a u q] at h; exact h
 | none => simp only [h]; rw [if_pos c]
mutual
theorem R.freeze {K:Par} {F H:Hp} {B:List Addr} (e:Same F H):∀ {v:V} {t:T} {A:List Addr} {x:D},R K F H v t A→frzOf t = some x→(∀ a,a∈A→a∈B)→Fz K (Fr F H B) v x
 | _,_,_,x,.d h,q,_ => by
  simp only [frzOf,Option.some.injEq] at q; subst q; exact h.mono Fr.same
 | _,_,_,x,.lst h1 h2 _,q,i => by
  simp only [frzOf,Option.map_eq_some_iff] at q
  obtain ⟨xs,q1,rfl⟩:=q
  exact .lst (Fr.at e h1 (.inr (i _ List.mem_cons_self))) (RA.freeze e h2 q1 fun a z => i a (List.mem_cons_of_mem _ z))
 | _,_,_,x,.tup h1 h2,q,i => by
  simp only [frzOf,Option.map_eq_some_iff] at q
  obtain ⟨xs,q1,rfl⟩:=q
  exact .tup (Fr.at e h1 (.inl rfl)) (RA.freeze e h2 q1 i)
 | _,_,_,x,.dK h1 h0 h2 _,q,i => by
  simp only [frzOf,Option.map_eq_some_iff] at q
  obtain ⟨xs,q1,rfl⟩:=q
  obtain ⟨e1,e2⟩:=frzkOf_split q1
  refine .dic (Fr.at e h1 (.inr (i _ List.mem_cons_self))) ?_ (RA.freeze e h2 e2 fun a z => i a (List.mem_cons_of_mem _ z))
  rw [e1]
  have:∀ {α β:Type} (l:List (Key × α)) (m:List (Key × β)),l.map Prod.fst = m.map Prod.fst→m.map (fun p => kD p.1) = l.map (fun p => kD p.1):=fun l m h => by
   have:=congrArg (List.map kD) h
   simpa [List.map_map,Function.comp_def] using this.symm
  exact this _ _ h0
 | _,_,_,x,.scr _,q,_ => by simp [frzOf] at q
 | _,_,_,x,.dT _ _ _ _,q,_ => by simp [frzOf] at q
 | _,_,_,x,.ins _ _ _ _ _ _,q,_ => by simp [frzOf] at q
theorem RA.freeze {K:Par} {F H:Hp} {B:List Addr} (e:Same F H):∀ {vs:List V} {ts:List T} {A:List Addr} {xs:List D},RA K F H vs ts A→frzsOf ts = some xs→(∀ a,a∈A→a∈B)→FzA K (Fr F H B) vs xs
 | _,_,_,xs,.nil,q,_ => by simp [frzsOf] at q; subst q; exact .nil
 | _,_,_,xs,.cons (t:=t) (ts:=ts) h1 h2 _,q,i => by
  simp only [frzsOf] at q
  cases q1:frzOf t with
  | none => rw [q1] at q; simp at q
  | some y =>
   cases q2:frzsOf ts with
   | none => rw [q1,q2] at q; simp at q
   | some ys =>
    rw [q1,q2] at q; simp at q; subst q
    exact .cons (R.freeze e h1 q1 fun a z => i a (List.mem_append_left _ z)) (RA.freeze e h2 q2 fun a z => i a (List.mem_append_right _ z))
end
mutual
def indep:T→Bool
 | .d x => imm x
 | .scr _ => false
 | .lst ts => indepA ts
 | .tup ts => indepA ts
 | .dK kvs => indepK kvs
 | .dT kvs => indepT kvs
 | .ins _ fs => indepF fs
def indepA:List T→Bool
 | [] => true
 | t :: ts => indep t&&indepA ts
def indepK:List (Key × T)→Bool
 | [] => true
 | (_,t) :: ts => indep t&&indepK ts
def indepT:List (List Key × T)→Bool
 | [] => true
 | (_,t) :: ts => indep t&&indepT ts
def indepF:List (Str × T)→Bool
 | [] => true
 | (_,t) :: ts => indep t&&indepF ts
end
theorem indepK_map:∀ {kvs:List (Key × T)},indepK kvs = true→indepA (kvs.map Prod.snd) = true
 | [],_ => rfl
 | (_,_) :: ts,h => by
  simp only [indepK,Bool.and_eq_true] at h
  simp [indepA,h.1,indepK_map h.2]
theorem indepT_map:∀ {kvs:List (List Key × T)},indepT kvs = true→indepA (kvs.map Prod.snd) = true
 | [],_ => rfl
 | (_,_) :: ts,h => by
  simp only [indepT,Bool.and_eq_true] at h
  simp [indepA,h.1,indepT_map h.2]
theorem indepF_map:∀ {kvs:List (Str × T)},indepF kvs = true→indepA (kvs.map Prod.snd) = true
 | [],_ => rfl
 | (_,_) :: ts,h => by
  simp only [indepF,Bool.and_eq_true] at h
  simp [indepA,h.1,indepF_map h.2]
mutual
theorem R.indep {K:Par} {F G H:Hp} (e:TupSub F G):∀ {v:V} {t:T} {A:List Addr},R K F H v t A→indep t = true→R K G H v t A
 | _,_,_,.d h,q => .d (h.immMono e (by simpa [Hu.indep] using q))
 | _,_,_,.scr _,q => by simp [Hu.indep] at q
 | _,_,_,.lst h1 h2 n,q => .lst h1 (RA.indep e h2 (by simpa [Hu.indep] using q)) n
 | _,_,_,.tup h1 h2,q => .tup h1 (RA.indep e h2 (by simpa [Hu.indep] using q))
 | _,_,_,.dK h1 h0 h2 n,q => .dK h1 h0 (RA.indep e h2 (indepK_map (by simpa [Hu.indep] using q))) n
 | _,_,_,.dT h1 h0 h2 n,q => .dT h1 h0 (RA.indep e h2 (indepT_map (by simpa [Hu.indep] using q))) n
 | _,_,_,.ins h1 h0 h3 h2 n m,q => .ins h1 h0 h3 (RA.indep e h2 (indepF_map (by simpa [Hu.indep] using q))) n m
theorem RA.indep {K:Par} {F G H:Hp} (e:TupSub F G):∀ {vs:List V} {ts:List T} {A:List Addr},RA K F H vs ts A→indepA ts = true→RA K G H vs ts A
 | _,_,_,.nil,_ => .nil
 | _,_,_,.cons h1 h2 n,q => by
  simp only [indepA,Bool.and_eq_true] at q
  exact .cons (R.indep e h1 q.1) (RA.indep e h2 q.2) n
end
inductive FOut where
 | ret (t:T) (back:Rho)
 | ex (c:Str) (f:Option (Str × T)) (back:Rho)
 | bad
 deriving Inhabited
abbrev FnT:=List T→FOut
def OutF (K:Par) (F H:Hp) (vs:List V) (fp:Nat→List Addr) (Q:VK) (E:XK):FOut→Prop
 | .ret t back => ∀ v F' H' fp' A,Sim K F' H' (vs.map some) back fp'→Tmp K F' H' fp' v t A→Ext F H fp F' H' fp' A→Q v H'
 | .ex c f back => ∀ d F' H' fp' A,Sim K F' H' (vs.map some) back fp'→XDict K F' H' fp' d f A→Ext F H fp F' H' fp' A→E (.ref (K.cls c)) d H'
 | .bad => False
def spT (K:Par) (n:Nat) (fn:FnT):Sp:=fun vs H Q E => vs.length = n∧∃ F fp ts,Sim K F H (vs.map some) (ts.map some) fp∧OutF K F H vs fp Q E (fn ts)
def frzT:T→Option T
 | .scr ns => some (.scr ns)
 | t => (frzOf t).map .d
def argT:List Bool→List T→Option (List T)
 | true :: io,t :: ts => (argT io ts).map (t :: ·)
 | false :: io,t :: ts => match frzT t,argT io ts with
  | some x,some xs => some (x :: xs)
  | _,_ => none
 | [],[] => some []
 | _,_ => none
def lentAt (os:List Opd) (io:List Bool) (i:Nat):Option Nat:=match os[i]?,io[i]? with
 | some (.nm j),some true => some j
 | _,_ => none
def borS:List Opd→List Bool→List Nat
 | .nm j :: os,false :: io => j :: borS os io
 | _ :: os,_ :: io => borS os io
 | _,_ => []
def ioC:List Opd→List Bool→Bool
 | .nm _ :: os,true :: io => ioC os io
 | .con _ _ :: os,false :: io => ioC os io
 | .val _ :: os,false :: io => ioC os io
 | .nm _ :: os,false :: io => ioC os io
 | [],[] => true
 | _,_ => false
def lendC (os:List Opd) (io:List Bool):Bool:=ioC os io&&(List.range os.length).all (fun i => (List.range os.length).all fun k => i == k||lentAt os io i == none||lentAt os io i != lentAt os io k)&&(borS os io).all fun j => (List.range os.length).all fun i => lentAt os io i != some j
def lentFp (os:List Opd) (io:List Bool) (fp:Nat→List Addr):Nat→List Addr:=fun i => match lentAt os io i with
 | some j => fp j
 | none => []
theorem lend_args {K:Par} {F H:Hp} {σ:St} {fp:Nat→List Addr} {ρ:Rho} {B:List Addr} (e:Same F H) (s:Sim K F H σ ρ fp):∀ {os:List Opd} {io:List Bool} {vs:List V} {xs:List (Option T)} {D:List Addr} {ts us:List T},ArgsR K F H σ fp os vs xs D→fins os xs ρ = some ts→argT io ts = some us→ioC os io = true →
  (∀ a,a∈D→a∈B)→(∀ j,j∈borS os io→∀ a,a∈fp j→a∈B)→vs.length = us.length∧os.length = us.length∧∀ i u,us[i]? = some u→∃ v,vs[i]? = some v∧R K (Fr F H B) H v u (lentFp os io fp i)
 | _,io,_,_,_,ts,us,.nil,h,h2,h3,_,_ => by
  simp only [fins] at h
  cases h
  cases io with
  | nil => simp [argT] at h2; subst h2; exact ⟨rfl,rfl,fun i u h => by simp at h⟩
  | cons b io => cases b <;> simp [argT] at h2
 | _,io,_,_,_,ts,us,.nm (i:=i) (os:=os) (v:=v) (vs:=vs) (xs:=xs) hv ha,h,h2,h3,hB,hC => by
  simp only [fins] at h
  cases q:getS ρ i with
  | none => rw [q] at h; simp at h
  | some t =>
   cases q2:fins os xs ρ with
   | none => rw [q,q2] at h; simp at h
   | some ws =>
    rw [q,q2] at h; simp at h; subst h
    obtain ⟨v',hv',r⟩:=s.sl i t (getS_some q)
    rw [hv] at hv'; cases hv'
    cases io with
    | nil => simp [argT] at h2
    | cons b io =>
     cases b with
     | true =>
      simp only [argT,Option.map_eq_some_iff] at h2
      obtain ⟨us',h4,rfl⟩:=h2
      obtain ⟨l1,l2,z⟩:=lend_args e s ha q2 h4 (by simpa [ioC] using h3) hB (fun j hj => hC j (by simpa [borS] using hj))
      refine ⟨by simp [l1],by simp [l2],fun k u hk => ?_⟩
      cases k with
      | zero => simp at hk; subst hk; exact ⟨v,rfl,by show R K _ H v _ (fp i); exact r.frame Fr.same (fun _ _ h => h) fun _ _ => rfl⟩
      | succ k => simp at hk; exact z k u hk
     | false =>
      simp only [argT] at h2
      cases q5:frzT t with
      | none => rw [q5] at h2; simp at h2
      | some y =>
       cases q6:argT io ws with
       | none => rw [q5,q6] at h2; simp at h2
       | some us' =>
        rw [q5,q6] at h2; simp at h2; subst h2
        obtain ⟨l1,l2,z⟩:=lend_args e s ha q2 q6 (by simpa [ioC] using h3) hB (fun j hj => hC j (by simp [borS,hj]))
        refine ⟨by simp [l1],by simp [l2],fun k u hk => ?_⟩
        cases k with
        | zero =>
         simp at hk; subst hk
         refine ⟨v,rfl,?_⟩
         show R K _ H v _ []
         exact frz1 e r q5 fun a ha => hC i (by simp [borS]) a ha
        | succ k => simp at hk; exact z k u hk
 | _,io,_,_,_,ts,us,.con (os:=os) (xs:=xs) (v:=v) (x:=x) hv ha,h,h2,h3,hB,hC => by
  simp only [fins] at h
  cases q2:fins os xs ρ with
  | none => rw [q2] at h; simp at h
  | some ws =>
   rw [q2] at h; simp at h; subst h
   cases io with
   | nil => simp [argT] at h2
   | cons b io =>
    cases b with
    | true => simp [ioC] at h3
    | false =>
     simp only [argT] at h2
     have q5:frzT (.d x) = some (.d x):=by simp [frzT,frzOf]
     cases q6:argT io ws with
     | none => rw [q5,q6] at h2; simp at h2
     | some us' =>
      rw [q5,q6] at h2; simp at h2; subst h2
      obtain ⟨l1,l2,z⟩:=lend_args e s ha q2 q6 (by simpa [ioC] using h3) hB (fun j hj => hC j (by simpa [borS] using hj))
      refine ⟨by simp [l1],by simp [l2],fun k u hk => ?_⟩
      cases k with
      | zero =>
       simp at hk; subst hk
       exact ⟨v,rfl,by show R K _ H v _ []; exact .d (hv.mono Fr.same)⟩
      | succ k => simp at hk; exact z k u hk
 | _,io,_,_,_,ts,us,.val (os:=os) (xs:=xs) (v:=v) (t:=t) hv _ ha,h,h2,h3,hB,hC => by
  simp only [fins] at h
  cases q2:fins os xs ρ with
  | none => rw [q2] at h; simp at h
  | some ws =>
   rw [q2] at h; simp at h; subst h
   cases io with
   | nil => simp [argT] at h2
   | cons b io =>
    cases b with
    | true => simp [ioC] at h3
    | false =>
     simp only [argT] at h2
     cases q5:frzT t with
     | none => rw [q5] at h2; simp at h2
     | some y =>
      cases q6:argT io ws with
      | none => rw [q5,q6] at h2; simp at h2
      | some us' =>
       rw [q5,q6] at h2; simp at h2; subst h2
       obtain ⟨l1,l2,z⟩:=lend_args e s ha q2 q6 (by simpa [ioC] using h3) (fun a z => hB a (List.mem_append_right _ z)) (fun j hj => hC j (by simpa [borS] using hj))
       refine ⟨by simp [l1],by simp [l2],fun k u hk => ?_⟩
       cases k with
       | zero =>
        simp at hk; subst hk
        refine ⟨v,rfl,?_⟩
        show R K _ H v _ []
        exact frz1 e hv.r q5 fun a ha => hB a (List.mem_append_left _ ha)
       | succ k => simp at hk; exact z k u hk
 | _,io,_,_,_,ts,us,.pk _ ha,h,h2,h3,_,_ => by cases io <;> simp [ioC] at h3
 | _,io,_,_,_,ts,us,.iv ha,h,h2,h3,_,_ => by cases io <;> simp [ioC] at h3
where
 frz1 {K:Par} {F H:Hp} {B:List Addr} {v:V} {t y:T} {A:List Addr} (e:Same F H) (r:R K F H v t A) (q:frzT t = some y) (i:∀ a,a∈A→a∈B):R K (Fr F H B) H v y []:=by
  cases t with
  | scr ns =>
   simp [frzT] at q
   subst q
   cases r with
   | scr h => exact .scr (sqL_on Fr.same h)
  | _ =>
   simp only [frzT,Option.map_eq_some_iff] at q
   obtain ⟨x,q,rfl⟩:=q
   exact .d (r.freeze e q i)
theorem lent_val {K:Par} {F H:Hp} {σ:St} {fp:Nat→List Addr}:∀ {os:List Opd} {io:List Bool} {vs:List V} {xs:List (Option T)} {D:List Addr},ArgsR K F H σ fp os vs xs D→∀ {i j:Nat},lentAt os io i = some j→∃ v,vs[i]? = some v∧σ[j]? = some (some v):=by
 intro os io vs xs D h
 induction h generalizing io with
 | nil => intro i j h; simp [lentAt] at h
 | nm hv ha ih =>
  intro i j h
  cases io with
  | nil => simp [lentAt] at h
  | cons b io =>
   cases i with
   | zero =>
    cases b with
    | true => simp [lentAt] at h; subst h; exact ⟨_,rfl,hv⟩
    | false => simp [lentAt] at h
   | succ i => exact ih (io:=io) (i:=i) (by simpa [lentAt] using h)
 | con hv ha ih =>
  intro i j h
  cases io with
  | nil => simp [lentAt] at h
  | cons b io =>
   cases i with
   | zero => simp [lentAt] at h
   | succ i => exact ih (io:=io) (i:=i) (by simpa [lentAt] using h)
 | val hv _ ha ih =>
  intro i j h
  cases io with
  | nil => simp [lentAt] at h
  | cons b io =>
   cases i with
   | zero => simp [lentAt] at h
   | succ i => exact ih (io:=io) (i:=i) (by simpa [lentAt] using h)
 | pk hv ha ih =>
  intro i j h
  cases io with
  | nil => simp [lentAt] at h
  | cons b io =>
   cases i with
   | zero => simp [lentAt] at h
   | succ i => exact ih (io:=io) (i:=i) (by simpa [lentAt] using h)
 | iv ha ih =>
  intro i j h
  cases io with
  | nil => simp [lentAt] at h
  | cons b io =>
   cases i with
   | zero => simp [lentAt] at h
   | succ i => exact ih (io:=io) (i:=i) (by simpa [lentAt] using h)
theorem ArgsR.temps {K:Par} {F H:Hp} {σ:St} {fp:Nat→List Addr} {os:List Opd} {vs:List V} {xs:List (Option T)} {B:List Addr} (h:ArgsR K F H σ fp os vs xs B):Live H B∧(∀ a,a∈B→F a = none)∧∀ a,a∈B→∀ i,a∉fp i:=by
 induction h with
 | nil => exact ⟨fun a h => by simp at h,fun a h => by simp at h,fun a h => by simp at h⟩
 | nm hv ha ih => exact ih
 | con hv ha ih => exact ih
 | pk hv ha ih => exact ih
 | iv ha ih => exact ih
 | val hv _ ha ih =>
  refine ⟨fun a h => ?_,fun a h => ?_,fun a h => ?_⟩
  ·rcases List.mem_append.mp h with h | h
   ·exact hv.r.live a h
   ·exact ih.1 a h
  ·rcases List.mem_append.mp h with h | h
   ·exact hv.ff a h
   ·exact ih.2.1 a h
  ·rcases List.mem_append.mp h with h | h
   ·exact hv.dj a h
   ·exact ih.2.2 a h
def lentOf (os:List Opd) (io:List Bool) (j:Nat):Option Nat:=(List.range os.length).find? fun i => lentAt os io i == some j
theorem lentOf_some {os:List Opd} {io:List Bool} {j i:Nat} (h:lentOf os io j = some i):lentAt os io i = some j:=by
 have:=List.find?_some h
 simpa using this
theorem lentOf_none {os:List Opd} {io:List Bool} {j:Nat} (h:lentOf os io j = none) (i:Nat):lentAt os io i≠some j:=fun q => by
 have l:i < os.length:=by
  unfold lentAt at q
  cases c:os[i]? with
  | none => rw [c] at q; simp at q
  | some o => exact (List.getElem?_eq_some_iff.mp c).1
 have:=List.find?_eq_none.mp h i (by simpa using l)
 simp [q] at this
def borrowed (os:List Opd) (io:List Bool) (fp:Nat→List Addr) (B:List Addr):List Addr:=B++(borS os io).flatMap fp
def backL (m:Bool) (os:List Opd) (io:List Bool) (back ρ:Rho):Rho:=ρ.mapIdx fun j u => match lentOf os io j with
 | some i => getS back i
 | none => if m = true then u else if j∈borS os io then (match u with
  | some t => frzT t
  | none => none) else u
theorem lend_back {K:Par} {F0 H0 F H:Hp} {σ:St} {ρ:Rho} {fp0 fp:Nat→List Addr} {B:List Addr} {os:List Opd} {io:List Bool} {vs:List V} {xs:List (Option T)} (x0:Ext F0 H0 fp0 F H fp B) (s:Sim K F H σ ρ fp) (ar:ArgsR K F H σ fp os vs xs B) (hl:lendC os io = true)
  {F' H':Hp} {fp':Nat→List Addr} {A:List Addr} {back:Rho} (s':Sim K F' H' (vs.map some) back fp') (x':Ext (Fr F H (borrowed os io fp B)) H (lentFp os io fp) F' H' fp' A) (m:Bool) (hm:m = true→∀ (i j:Nat) t,lentAt os io i = some j→back[i]? = some (some t)→indep t = true) :
  ∃ G fp2,Sim K G H' σ (backL m os io back ρ) fp2∧Ext F0 H0 fp0 G H' fp2 A∧(∀ v t C,Tmp K F' H' fp' v t C→(∀ a,a∈C→a∈A)→(m = true→indep t = true)→Tmp K G H' fp2 v t C)∧(∀ a,a∈A→(∀ i,a∉fp' i)→∀ i,a∉fp2 i)∧∀ a,F' a = none→G a = none:=by
 obtain ⟨tl,tf,td⟩:=ar.temps
 have hl1:(List.range os.length).all (fun i => (List.range os.length).all fun k => i == k||lentAt os io i == none||lentAt os io i != lentAt os io k) = true:=by
  unfold lendC at hl; simp only [Bool.and_eq_true] at hl; exact hl.1.2
 have hl2:(borS os io).all (fun j => (List.range os.length).all fun i => lentAt os io i != some j) = true:=by
  unfold lendC at hl; simp only [Bool.and_eq_true] at hl; exact hl.2
 have llt:∀ {i j:Nat},lentAt os io i = some j→i < os.length:=fun {i j} q => by
  unfold lentAt at q
  cases c:os[i]? with
  | none => rw [c] at q; simp at q
  | some o => exact (List.getElem?_eq_some_iff.mp c).1
 have inj:∀ {i k j:Nat},lentAt os io i = some j→lentAt os io k = some j→i = k:=fun {i k j} q1 q2 => by
  have z:=List.all_eq_true.mp (List.all_eq_true.mp hl1 i (by simpa using llt q1)) k (by simpa using llt q2)
  simp [q1,q2] at z
  exact z
 have norb:∀ {j:Nat},j∈borS os io→∀ i,lentAt os io i≠some j:=fun {j} h i q => by
  have z:=List.all_eq_true.mp (List.all_eq_true.mp hl2 j h) i (by simpa using llt q)
  simp [q] at z
 have cell:∀ {i:Nat} {a:Addr},a∈lentFp os io fp i→∃ j,lentAt os io i = some j∧a∈fp j:=fun {i a} h => by
  unfold lentFp at h
  cases c:lentAt os io i with
  | none => rw [c] at h; simp at h
  | some j => rw [c] at h; exact ⟨j,rfl,h⟩
 have out:∀ {j:Nat} {a:Addr},(∀ i,lentAt os io i≠some j)→a∈fp j→∀ i,a∉lentFp os io fp i:=fun {j a} n h i q => by
  obtain ⟨k,e,z⟩:=cell q
  by_cases c:j = k
  ·subst c; exact n i e
  ·exact s.dj j k c a h z
 have bout:∀ {a:Addr},a∈borrowed os io fp B→(∃ o,H a = some o∧isT o = false)∧F a = none∧∀ i,a∉lentFp os io fp i:=fun {a} h => by
  (rcases List.mem_append.mp h with h | h)
  ·refine ⟨tl a h,tf a h,fun i q => ?_⟩
   obtain ⟨k,e,z⟩:=cell q
   exact td a h k z
  ·obtain ⟨j,hj,h⟩:=List.mem_flatMap.mp h
   exact ⟨s.mt j a h,s.ff j a h,out (norb hj) h⟩
 have keep1:∀ {j:Nat},(∀ i,lentAt os io i≠some j)→∀ a,a∈fp j→H' a = H a:=fun {j} n a h => by
  obtain ⟨o,e,_⟩:=s.mt j a h
  rw [e]; exact x'.keep a o e (out n h)
 have tu:TupSub H H':=fun a xs h => x'.keep a _ h fun i q => by
  obtain ⟨k,e,z⟩:=cell q
  obtain ⟨o,e2,nt⟩:=s.mt k a z
  rw [h] at e2; cases e2; cases nt
 let G:Hp:=fun a => if m = true∧a∈borrowed os io fp B then none else F' a
 let fp2:Nat→List Addr:=fun j => match lentOf os io j with
  | some i => fp' i
  | none => if m = false∧j∈borS os io then [] else fp j
 have fp2l:∀ {j i:Nat},lentOf os io j = some i→fp2 j = fp' i:=fun {j i} h => by show (match lentOf os io j with | some i => fp' i | none => _) = _; rw [h]
 have fp2n:∀ {j:Nat} {a:Addr},lentOf os io j = none→a∈fp2 j→a∈fp j∧¬ (m = false∧j∈borS os io):=fun {j a} h z => by
  have z:a∈(match lentOf os io j with | some i => fp' i | none => if m = false∧j∈borS os io then [] else fp j):=z
  rw [h] at z
  simp only at z
  split at z
  ·simp at z
  ·exact ⟨z,by assumption⟩
 have GF:∀ {a o},G a = some o→F' a = some o:=fun {a o} h => by
  have h:(if m = true∧a∈borrowed os io fp B then none else F' a) = some o:=h
  split at h
  ·cases h
  ·exact h
 have GN:∀ a,F' a = none→G a = none:=fun a h => by
  show (if m = true∧a∈borrowed os io fp B then none else F' a) = none
  split
  ·rfl
  ·exact h
 have FG:Same F G:=fun a o h => by
  show (if m = true∧a∈borrowed os io fp B then none else F' a) = some o
  rw [if_neg (fun c => by rw [(bout c.2).2.1] at h; cases h)]
  exact x'.fsub a o (Fr.same a o h)
 have FG':TupSub F' G:=fun a xs h => by
  show (if m = true∧a∈borrowed os io fp B then none else F' a) = _
  rw [if_neg (fun c => by
   obtain ⟨⟨o,e,nt⟩,_,n⟩:=bout c.2
   have:=x'.keep a o e n
   rw [s'.sub a _ h] at this
   cases this; cases nt)]
  exact h
 have GH:Same G H':=fun a o h => s'.sub a o (GF h)
 have dj2:∀ {j i:Nat} {a:Addr},(∀ i,lentAt os io i≠some j)→a∈fp j→a∉fp' i∧a∉A:=fun {j i a} n h => by
  have no:¬ ((∃ i,a∈lentFp os io fp i)∨H a = none):=fun q => by
   rcases q with ⟨i,q⟩ | q
   ·exact out n h i q
   ·obtain ⟨o,e,_⟩:=s.mt j a h
    rw [e] at q; cases q
  exact ⟨fun q => no (x'.own a (.inr ⟨i,q⟩)),fun q => no (x'.own a (.inl q))⟩
 have back1:∀ {a:Addr},((∃ i,a∈lentFp os io fp i)∨H a = none)→(∃ i,a∈fp0 i)∨H0 a = none:=fun {a} q => by
  rcases q with ⟨i,q⟩ | q
  ·obtain ⟨j,_,z⟩:=cell q
   exact x0.own a (.inr ⟨j,z⟩)
  ·cases c:H0 a with
   | none => exact .inr rfl
   | some u =>
    by_cases e:∃ i,a∈fp0 i
    ·exact .inl e
    ·have:=x0.keep a u c fun i z => e ⟨i,z⟩
     rw [q] at this; cases this
 have fromB:∀ {a:Addr},a∈borrowed os io fp B→(∃ i,a∈fp0 i)∨H0 a = none:=fun {a} h => by
  (rcases List.mem_append.mp h with h | h)
  ·exact x0.own a (.inl h)
  ·obtain ⟨j,_,h⟩:=List.mem_flatMap.mp h
   exact x0.own a (.inr ⟨j,h⟩)
 refine ⟨G,fp2,⟨?_,fun j t h => ?_,fun j k n a ha hb => ?_,fun j a h => ?_,fun j a h => ?_,GH⟩,⟨fun a o e n => ?_,?_,fun a o h => ?_,fun a h => ?_⟩,fun v t C mt hC hi => ?_,fun a ha n j h => ?_,GN⟩
 ·simp [backL,s.len]
 ·unfold backL at h
  rw [List.getElem?_mapIdx] at h
  cases q:ρ[j]? with
  | none => rw [q] at h; simp at h
  | some u =>
   rw [q] at h
   simp only [Option.map_some,Option.some.injEq] at h
   cases c:lentOf os io j with
   | some i =>
    rw [c] at h
    simp only at h
    have hb:=getS_some h
    obtain ⟨v,e,r⟩:=s'.sl i t hb
    obtain ⟨v2,e2,e3⟩:=lent_val (io:=io) ar (lentOf_some c)
    rw [List.getElem?_map,e2] at e
    simp at e
    subst e
    refine ⟨v2,e3,?_⟩
    rw [fp2l c]
    cases mm:m with
    | true => exact r.indep FG' (hm mm i j t (lentOf_some c) hb)
    | false =>
     refine r.frame (fun a o h => ?_) (fun _ _ h => h) fun _ _ => rfl
     show (if m = true∧a∈borrowed os io fp B then none else F' a) = some o
     rw [if_neg (by simp [mm])]; exact h
   | none =>
    rw [c] at h
    simp only at h
    have nl:=lentOf_none c
    have plain:u = some t→¬ (m = false∧j∈borS os io)→∃ v,σ[j]? = some (some v)∧R K G H' v t (fp2 j):=fun hu nb => by
     subst hu
     obtain ⟨v,e,r⟩:=s.sl j t q
     refine ⟨v,e,?_⟩
     have:fp2 j = fp j:=by
      show (match lentOf os io j with | some i => fp' i | none => if m = false∧j∈borS os io then [] else fp j) = _
      rw [c]; simp only; rw [if_neg nb]
     rw [this]
     exact r.frame FG tu (keep1 nl)
    cases mm:m with
    | true => rw [mm,if_pos rfl] at h; exact plain h (by simp [mm])
    | false =>
     rw [mm,if_neg (by decide)] at h
     by_cases hj:j∈borS os io
     ·rw [if_pos hj] at h
      cases u with
      | none => cases h
      | some t0 =>
       simp only at h
       obtain ⟨v,e,r⟩:=s.sl j t0 q
       have r2:=lend_args.frz1 (B:=borrowed os io fp B) s.sub r h fun a ha => List.mem_append_right _ (List.mem_flatMap.mpr ⟨j,hj,ha⟩)
       have:fp2 j = []:=by
        show (match lentOf os io j with | some i => fp' i | none => if m = false∧j∈borS os io then [] else fp j) = _
        rw [c]; simp only; rw [if_pos ⟨mm,hj⟩]
       refine ⟨v,e,?_⟩
       rw [this]
       refine r2.frame (fun a o h => ?_) tu fun a z => by simp at z
       show (if m = true∧a∈borrowed os io fp B then none else F' a) = some o
       rw [if_neg (by simp [mm])]; exact x'.fsub a o h
     ·rw [if_neg hj] at h
      exact plain h (by simp [hj])
 ·cases c1:lentOf os io j with
  | some i =>
   rw [fp2l c1] at ha
   cases c2:lentOf os io k with
   | some i' =>
    rw [fp2l c2] at hb
    by_cases c:i = i'
    ·subst c
     have:=(lentOf_some c1).symm.trans (lentOf_some c2)
     exact n (Option.some.inj this)
    ·exact s'.dj i i' c a ha hb
   | none =>
    obtain ⟨hb,_⟩:=fp2n c2 hb
    exact (dj2 (i:=i) (lentOf_none c2) hb).1 ha
  | none =>
   obtain ⟨ha,_⟩:=fp2n c1 ha
   cases c2:lentOf os io k with
   | some i' =>
    rw [fp2l c2] at hb
    exact (dj2 (i:=i') (lentOf_none c1) ha).1 hb
   | none =>
    obtain ⟨hb,_⟩:=fp2n c2 hb
    exact s.dj j k n a ha hb
 ·cases c1:lentOf os io j with
  | some i => rw [fp2l c1] at h; exact GN a (s'.ff i a h)
  | none =>
   obtain ⟨h,nb⟩:=fp2n c1 h
   by_cases hB:a∈borrowed os io fp B
   ·have mt:m = true:=by
     cases mm:m with
     | true => rfl
     | false =>
      exfalso
      rcases List.mem_append.mp hB with z | z
      ·exact td a z j h
      ·obtain ⟨k,hk,z⟩:=List.mem_flatMap.mp z
       by_cases c:j = k
       ·subst c; exact nb ⟨mm,hk⟩
       ·exact s.dj j k c a h z
    show (if m = true∧a∈borrowed os io fp B then none else F' a) = none
    rw [if_pos ⟨mt,hB⟩]
   ·apply GN
    cases q:F' a with
    | none => rfl
    | some o =>
     obtain ⟨u,e,nt⟩:=s.mt j a h
     rcases x'.fnew a o q with z | z | z | ⟨i,z⟩
     ·rcases Fr.inv z with z | ⟨z,z2⟩
      ·rw [s.ff j a h] at z; cases z
      ·rcases z2 with z2 | z2
       ·rw [e] at z; cases z; rw [nt] at z2; cases z2
       ·exact absurd z2 hB
     ·rw [e] at z; cases z
     ·have:=s'.sub a o q
      rw [keep1 (lentOf_none c1) a h,e] at this
      cases this; rw [nt] at z; cases z
     ·exact absurd z (out (lentOf_none c1) h i)
 ·cases c1:lentOf os io j with
  | some i => rw [fp2l c1] at h; exact s'.mt i a h
  | none =>
   obtain ⟨h,_⟩:=fp2n c1 h
   obtain ⟨o,e,nt⟩:=s.mt j a h
   exact ⟨o,by rw [keep1 (lentOf_none c1) a h]; exact e,nt⟩
 ·refine x'.keep a o (x0.keep a o e n) fun i q => ?_
  obtain ⟨j,_,z⟩:=cell q
  rcases x0.own a (.inr ⟨j,z⟩) with ⟨k,y⟩ | y
  ·exact n k y
  ·rw [e] at y; cases y
 ·exact x0.fsub.trans FG
 ·have hF:=GF h
  rcases x'.fnew a o hF with z | z | z | ⟨i,z⟩
  ·rcases Fr.inv z with z | ⟨_,z2⟩
   ·exact x0.fnew a o z
   ·rcases z2 with z2 | z2
    ·exact .inr (.inr (.inl z2))
    ·rcases fromB z2 with y | y
     ·exact .inr (.inr (.inr y))
     ·exact .inr (.inl y)
  ·rcases back1 (.inr z) with y | y
   ·exact .inr (.inr (.inr y))
   ·exact .inr (.inl y)
  ·exact .inr (.inr (.inl z))
  ·rcases back1 (.inl ⟨i,z⟩) with y | y
   ·exact .inr (.inr (.inr y))
   ·exact .inr (.inl y)
 ·rcases h with h | ⟨j,h⟩
  ·exact back1 (x'.own a (.inl h))
  ·cases c1:lentOf os io j with
   | some i => rw [fp2l c1] at h; exact back1 (x'.own a (.inr ⟨i,h⟩))
   | none => exact x0.own a (.inr ⟨j,(fp2n c1 h).1⟩)
 ·refine ⟨?_,fun a h j q => ?_,fun a h => GN a (mt.ff a h)⟩
  ·cases mm:m with
   | true => exact mt.r.indep FG' (hi mm)
   | false =>
    refine mt.r.frame (fun a o h => ?_) (fun _ _ h => h) fun _ _ => rfl
    show (if m = true∧a∈borrowed os io fp B then none else F' a) = some o
    rw [if_neg (by simp [mm])]; exact h
  ·cases c1:lentOf os io j with
   | some i => rw [fp2l c1] at q; exact mt.dj a h i q
   | none => exact (dj2 (i:=0) (lentOf_none c1) (fp2n c1 q).1).2 (hC a h)
 ·cases c1:lentOf os io j with
  | some i => rw [fp2l c1] at h; exact n i h
  | none => exact (dj2 (i:=0) (lentOf_none c1) (fp2n c1 h).1).2 ha
end Hu
namespace Hu
open PySem L2
def indepO:Option T→Bool
 | some t => indep t
 | none => true
def indepX:Option (Str × T)→Bool
 | some (_,t) => indep t
 | none => true
def backC (io:List Bool) (back:Rho):Bool:=(List.range io.length).all fun i => !(io[i]?.getD false)||indepO (getS back i)
theorem backC_at {os:List Opd} {io:List Bool} {back:Rho} (h:backC io back = true) {i j:Nat} {t:T} (l:lentAt os io i = some j) (e:back[i]? = some (some t)):indep t = true:=by
 have hi:io[i]? = some true:=by
  unfold lentAt at l
  split at l
  ·assumption
  ·cases l
 have lt:i < io.length:=(List.getElem?_eq_some_iff.mp hi).1
 have z:=List.all_eq_true.mp h i (by simpa using lt)
 simp only [hi,Option.getD_some,Bool.not_true,Bool.false_or] at z
 have g:getS back i = some t:=by unfold getS; rw [e]; rfl
 rw [g] at z
 exact z
def gUser (fn:FnT) (io:List Bool) (os:List Opd):G T:=gOs os fun ts ρ => match argT io ts with
 | none => .bad
 | some us => if lendC os io = true then match fn us with
   | .ret t back => .ok t (backL (indep t&&backC io back) os io back ρ)
   | .ex c f back => .ex c f (backL (indepX f&&backC io back) os io back ρ)
   | .bad => .bad
  else .bad
theorem lend_sim {K:Par} {F H:Hp} {σ:St} {ρ:Rho} {fp:Nat→List Addr} {B:List Addr} {os:List Opd} {io:List Bool} {vs:List V} {xs:List (Option T)} {ts us:List T} (s:Sim K F H σ ρ fp) (ar:ArgsR K F H σ fp os vs xs B) (fi:fins os xs ρ = some ts) (ha:argT io ts = some us) (hl:lendC os io = true) :
  vs.length = us.length∧Sim K (Fr F H (borrowed os io fp B)) H (vs.map some) (us.map some) (lentFp os io fp):=by
 have hio:ioC os io = true:=by unfold lendC at hl; simp only [Bool.and_eq_true] at hl; exact hl.1.1
 have hl1:(List.range os.length).all (fun i => (List.range os.length).all fun k => i == k||lentAt os io i == none||lentAt os io i != lentAt os io k) = true:=by
  unfold lendC at hl; simp only [Bool.and_eq_true] at hl; exact hl.1.2
 have hl2:(borS os io).all (fun j => (List.range os.length).all fun i => lentAt os io i != some j) = true:=by
  unfold lendC at hl; simp only [Bool.and_eq_true] at hl; exact hl.2
 have llt:∀ {i j:Nat},lentAt os io i = some j→i < os.length:=fun {i j} q => by
  unfold lentAt at q
  cases c:os[i]? with
  | none => rw [c] at q; simp at q
  | some o => exact (List.getElem?_eq_some_iff.mp c).1
 have cell:∀ {i:Nat} {a:Addr},a∈lentFp os io fp i→∃ j,lentAt os io i = some j∧a∈fp j:=fun {i a} h => by
  unfold lentFp at h
  cases c:lentAt os io i with
  | none => rw [c] at h; simp at h
  | some j => rw [c] at h; exact ⟨j,rfl,h⟩
 obtain ⟨tl,tf,td⟩:=ar.temps
 obtain ⟨l1,l2,z⟩:=lend_args (B:=borrowed os io fp B) s.sub s ar fi ha hio (fun a h => List.mem_append_left _ h) fun j hj a h => List.mem_append_right _ (List.mem_flatMap.mpr ⟨j,hj,h⟩)
 refine ⟨l1,by simp [l1],fun i t h => ?_,fun i k n a h1 h2 => ?_,fun i a h => ?_,fun i a h => ?_,Fr.sub s.sub⟩
 ·rw [List.getElem?_map] at h
  cases q:us[i]? with
  | none => rw [q] at h; simp at h
  | some u =>
   rw [q] at h
   simp at h
   subst h
   obtain ⟨v,e,r⟩:=z i u q
   exact ⟨v,by rw [List.getElem?_map,e]; rfl,r⟩
 ·obtain ⟨j,e1,y1⟩:=cell h1
  obtain ⟨j',e2,y2⟩:=cell h2
  by_cases c:j = j'
  ·subst c
   have w:=List.all_eq_true.mp (List.all_eq_true.mp hl1 i (by simpa using llt e1)) k (by simpa using llt e2)
   simp [e1,e2] at w
   exact n w
  ·exact s.dj j j' c a y1 y2
 ·obtain ⟨j,e1,y1⟩:=cell h
  cases q:Fr F H (borrowed os io fp B) a with
  | none => rfl
  | some o =>
   obtain ⟨u,e,nt⟩:=s.mt j a y1
   rcases Fr.inv q with w | ⟨w,w2⟩
   ·rw [s.ff j a y1] at w; cases w
   ·rcases w2 with w2 | w2
    ·rw [e] at w; cases w; rw [nt] at w2; cases w2
    ·rcases List.mem_append.mp w2 with w2 | w2
     ·exact absurd y1 (td a w2 j)
     ·obtain ⟨k,hk,w2⟩:=List.mem_flatMap.mp w2
      by_cases c:j = k
      ·subst c
       have w:=List.all_eq_true.mp (List.all_eq_true.mp hl2 j hk) i (by simpa using llt e1)
       simp [e1] at w
      ·exact absurd w2 (s.dj j k c a y1)
 ·obtain ⟨j,e1,y1⟩:=cell h
  exact s.mt j a y1
theorem user_ok {K:Par} {W:XW} {n:Nat} {fn:FnT} {io:List Bool} {os:List Opd} (f:os.all Opd.fine = true) (hn:io.length = n) {σ:St} {H:Hp} {Q:VK} (g:tG K W (gUser fn io os) σ H Q):tOs K W os σ H fun vs H1 => spT K n fn vs H1 Q (W σ):=by
 obtain ⟨ρ,F,fp,s,o⟩:=g
 refine gOs_run f (Ext.refl F H fp) s o fun vs xs ts ρ' F' H' fp' B s' x ar fi _ o => ?_
 cases q:argT io ts with
 | none => rw [q] at o; exact o.elim
 | some us =>
  rw [q] at o
  simp only at o
  split at o
  ·rename_i hl
   obtain ⟨l1,sc⟩:=lend_sim s' ar fi q hl
   have l2:us.length = io.length:=argLen q
   refine ⟨by omega,_,_,us,sc,?_⟩
   cases qf:fn us with
   | bad => rw [qf] at o; exact o.elim
   | ret t back =>
    rw [qf] at o
    intro v F2 H2 fp2 A s2 m2 x2
    obtain ⟨G,fp3,s3,x3,tm,_,_⟩:=lend_back x s' ar hl s2 x2 (indep t&&backC io back) fun hm i j u hl2 hu => by
     simp only [Bool.and_eq_true] at hm
     exact backC_at hm.2 hl2 hu
    exact o v G H2 fp3 A s3 (tm v t A m2 (fun _ z => z) fun hm => by simp only [Bool.and_eq_true] at hm; exact hm.1) x3
   | ex c u back =>
    rw [qf] at o
    intro d F2 H2 fp2 A s2 m2 x2
    obtain ⟨G,fp3,s3,x3,tm,ta,tn⟩:=lend_back x s' ar hl s2 x2 (indepX u&&backC io back) fun hm i j u hl2 hu => by
     simp only [Bool.and_eq_true] at hm
     exact backC_at hm.2 hl2 hu
    refine o d G H2 fp3 A s3 ?_ x3
    cases u with
    | none => exact m2
    | some p =>
     obtain ⟨y,t⟩:=p
     obtain ⟨dd,v,B2,e1,e2,mt,e3,e4,e5,e6⟩:=m2
     subst e3
     exact ⟨dd,v,B2,e1,e2,tm v t B2 mt (fun a z => List.mem_cons_of_mem _ z) (fun hm => by simp only [Bool.and_eq_true,indepX] at hm; exact hm.1),rfl,e4,ta dd List.mem_cons_self e5,tn dd e6⟩
  ·exact o.elim
where
 argLen:∀ {io:List Bool} {ts us:List T},argT io ts = some us→us.length = io.length
  | [],[],us,h => by simp [argT] at h; subst h; rfl
  | [],_ :: _,us,h => by simp [argT] at h
  | true :: io,[],us,h => by simp [argT] at h
  | false :: io,[],us,h => by simp [argT] at h
  | true :: io,t :: ts,us,h => by
   simp only [argT,Option.map_eq_some_iff] at h
   obtain ⟨us',h,rfl⟩:=h
   simp [argLen h]
  | false :: io,t :: ts,us,h => by
   simp only [argT] at h
   cases q5:frzT t with
   | none => rw [q5] at h; simp at h
   | some y =>
    cases q6:argT io ts with
    | none => rw [q5,q6] at h; simp at h
    | some us' => rw [q5,q6] at h; simp at h; subst h; simp [argLen q6]
def Opd.lt:Opd→Opd
 | .nm i => .nm i
 | .con v x => .con v x
 | o => .val o.vg
section
variable {X:Cx} {cls:Str→Addr} {W:XW} {e:Expr} {es:List Expr} {os:List Opd} {pos p:Pos} {o:Opd} {x:Str} {CX:CXT} {k j:Nat} {f:Addr} {fd:FuncData} {ps:List Str}
theorem DE.lt (h:DE X cls W e o):DE X cls W e o.lt:=by
 cases o with
 | nm i => exact h
 | con v x => exact h
 | val g => exact h.val
 | pk g => exact h.val
 | iv g => exact h.val
theorem DAs.lt:∀ {es:List Expr} {os:List Opd},DAs X cls W es os→DAs X cls W es (os.map Opd.lt)
 | _,_,.nil => .nil
 | _,_,.cons h d r => .cons h d.lt r.lt
end
def backS (st:List Nat) (n:Nat) (ρ:Rho):Rho:=(ρ.take n).mapIdx fun i u => if i∈st then none else u
def fnOf (n N:Nat) (st:List Nat) (g:SG):FnT:=fun ts => match g (ts.map some++List.replicate (N - n) none) with
 | .nx ρ => .ret (.d .none) (backS st n ρ)
 | .rt t ρ => .ret t (backS st n ρ)
 | .ex c f ρ => .ex c f (backS st n ρ)
 | _ => .bad
theorem backS_sim {K:Par} {F H:Hp} {σ:St} {ρ:Rho} {fp:Nat→List Addr} {vs:List V} {N:Nat} {st:List Nat} (s:Sim K F H σ ρ fp) (ag:Ag st (vs.map some++List.replicate N none) σ):Sim K F H (vs.map some) (backS st vs.length ρ) fp:=by
 have hl:σ.length = vs.length + N:=by rw [ag.1]; simp
 refine ⟨?_,fun i t h => ?_,s.dj,s.ff,s.mt,s.sub⟩
 ·have:=s.len
  simp [backS]; omega
 ·unfold backS at h
  rw [List.getElem?_mapIdx,List.getElem?_take] at h
  by_cases li:i < vs.length
  ·rw [if_pos li] at h
   cases q:ρ[i]? with
   | none => rw [q] at h; simp at h
   | some u =>
    rw [q] at h
    simp only [Option.map_some,Option.some.injEq] at h
    by_cases c:i∈st
    ·rw [if_pos c] at h; cases h
    ·rw [if_neg c] at h
     subst h
     obtain ⟨v,e,r⟩:=s.sl i t q
     rw [ag.2 i c,List.getElem?_append_left (by simpa using li)] at e
     exact ⟨v,e,r⟩
  ·rw [if_neg li] at h; simp at h
theorem body_ok {K:Par} {W:XW} {n:Nat} {N:List Str} {st:List Nat} {g:SG} {vs:List V} {H:Hp} {Q:VK} {E:XK} (hW:∀ σ c d H,E c d H→W σ c d H) (h:spT K n (fnOf n N.length st g) vs H Q E):tS K W st g { nx:=fun _ H' => Q .non H',rt:=Q } (L2.start N vs) H:=by
 obtain ⟨hl,F,fp,ts,s,o⟩:=h
 have ht:ts.length = n:=by have:=s.len; simp at this; omega
 refine ⟨ts.map some++List.replicate (N.length - n) none,F,fp,?_,?_⟩
 ·unfold L2.start
  rw [hl]
  refine ⟨by simp [hl,ht],fun i t h => ?_,s.dj,s.ff,s.mt,s.sub⟩
  by_cases c:i < n
  ·rw [List.getElem?_append_left (by simp [ht,c])] at h
   rw [List.getElem?_append_left (by simp [hl,c])]
   exact s.sl i t h
  ·rw [List.getElem?_append_right (by simp [ht]; omega)] at h
   rw [List.getElem?_replicate] at h
   split at h <;> cases h
 ·have hs:L2.start N vs = vs.map some++List.replicate (N.length - vs.length) none:=rfl
  rw [hs]
  have mt:∀ {F' H':Hp} {fp':Nat→List Addr},(∀ b,b∈([]:List Addr)→F' b = none):=fun b z => by simp at z
  unfold fnOf at o
  cases q:g (ts.map some++List.replicate (N.length - n) none) with
  | bad => rw [q] at o; exact o.elim
  | ct ρ => rw [q] at o; exact o.elim
  | nx ρ =>
   rw [q] at o
   exact fun σ' F' H' fp' s' x ag => o .non F' H' fp' [] (hl ▸ backS_sim s' ag) (Tmp.frz .non) x
  | rt t ρ =>
   rw [q] at o
   exact fun v σ' F' H' fp' A s' m x ag => o v F' H' fp' A (hl ▸ backS_sim s' ag) m x
  | ex c f ρ =>
   rw [q] at o
   exact fun d σ' F' H' fp' A s' m x ag => hW _ _ _ _ (o d F' H' fp' A (hl ▸ backS_sim s' ag) m x)
end Hu
namespace Hu
open PySem L2
section
variable {K:Par} {F H:Hp}
theorem RA.split:∀ {ts1:List T} {vs:List V} {ts2:List T} {A:List Addr},RA K F H vs (ts1++ts2) A→∃ vs1 vs2 A1 A2,vs = vs1++vs2∧RA K F H vs1 ts1 A1∧RA K F H vs2 ts2 A2∧A = A1++A2∧∀ a,a∈A1→a∉A2
 | [],vs,ts2,A,h => ⟨[],vs,[],A,rfl,.nil,h,rfl,fun a h => by simp at h⟩
 | t :: ts1,_,ts2,_,.cons (v:=v) (A:=A) h1 h2 n => by
  obtain ⟨vs1,vs2,A1,A2,rfl,r1,r2,rfl,d⟩:=RA.split h2
  refine ⟨v :: vs1,vs2,A++A1,A2,rfl,.cons h1 r1 fun a z w => n a z (List.mem_append_left _ w),r2,by simp,fun a z w => ?_⟩
  rcases List.mem_append.mp z with z | z
  ·exact n a z (List.mem_append_right _ w)
  ·exact d a z w
theorem RA.join:∀ {vs1:List V} {ts1:List T} {A1:List Addr} {vs2:List V} {ts2:List T} {A2:List Addr},RA K F H vs1 ts1 A1→RA K F H vs2 ts2 A2→(∀ a,a∈A1→a∉A2)→RA K F H (vs1++vs2) (ts1++ts2) (A1++A2)
 | _,_,_,_,_,_,.nil,h,_ => by simpa using h
 | _,_,_,_,_,_,.cons h1 h2 n,h,d => by
  have:=RA.cons h1 (RA.join h2 h fun a z => d a (List.mem_append_right _ z)) fun a z w => by
   rcases List.mem_append.mp w with w | w
   ·exact n a z w
   ·exact d a (List.mem_append_left _ z) w
  simpa using this
theorem RA.one {v:V} {t:T} {A:List Addr} (h:R K F H v t A):RA K F H [v] [t] A:=by simpa using RA.cons h .nil (by simp)
theorem RA.one':∀ {vs:List V} {t:T} {A:List Addr},RA K F H vs [t] A→∃ v,vs = [v]∧R K F H v t A
 | _,_,_,.cons h1 .nil _ => ⟨_,rfl,by simpa using h1⟩
structure Loc (K:Par) (F H:Hp) (v:V) (t:T) (A:List Addr) (v':V) (t':T) (A':List Addr) (put:T→T):Prop where
 r:R K F H v' t' A'
 sub:∀ a,a∈A'→a∈A
 put:∀ F' H' t2 A2,Same F F'→TupSub H H'→(∀ a,a∈A→a∉A'→H' a = H a)→R K F' H' v' t2 A2→(∀ a,a∈A2→a∈A→a∈A')→∃ A3,R K F' H' v (put t2) A3∧∀ a,a∈A3→a∈A2∨(a∈A∧a∉A')
variable {v v1 v2:V} {t t1 t2:T} {A A1 A2:List Addr} {p1 p2:T→T}
theorem Loc.refl (r:R K F H v t A):Loc K F H v t A v t A id:=⟨r,fun _ h => h,fun F' H' t2 A2 _ _ _ r _ => ⟨A2,r,fun a h => .inl h⟩⟩
theorem Loc.trans (l:Loc K F H v t A v1 t1 A1 p1) (m:Loc K F H v1 t1 A1 v2 t2 A2 p2):Loc K F H v t A v2 t2 A2 (fun u => p1 (p2 u)):=by
 refine ⟨m.r,fun a h => l.sub a (m.sub a h),fun F' H' u U e s k r i => ?_⟩
 obtain ⟨A3,r3,i3⟩:=m.put F' H' u U e s (fun a h n => k a (l.sub a h) n) r fun a h z => i a h (l.sub a z)
 obtain ⟨A4,r4,i4⟩:=l.put F' H' _ A3 e s (fun a h n => k a h fun z => n (m.sub a z)) r3 fun a h z => by
  rcases i3 a h with h | h
  ·exact m.sub a (i a h z)
  ·exact h.1
 refine ⟨A4,r4,fun a h => ?_⟩
 rcases i4 a h with h | ⟨h,n⟩
 ·rcases i3 a h with h | ⟨h,n⟩
  ·exact .inl h
  ·exact .inr ⟨l.sub a h,n⟩
 ·exact .inr ⟨h,fun z => n (m.sub a z)⟩
theorem Loc.frame {F' H':Hp} (l:Loc K F H v t A v1 t1 A1 p1) (e:Same F F') (s:TupSub H H') (k:∀ a,a∈A→H' a = H a):Loc K F' H' v t A v1 t1 A1 p1 :=
 ⟨l.r.frame e s fun a h => k a (l.sub a h),l.sub,fun F2 H2 u U e2 s2 k2 r i => l.put F2 H2 u U (e.trans e2) (fun a xs h => s2 a xs (s a xs h)) (fun a h n => (k2 a h n).trans (k a h)) r i⟩
theorem RA.loc:∀ {vs:List V} {ts:List T} {A:List Addr} {j:Nat} {t':T},RA K F H vs ts A→ts[j]? = some t'→∃ v' A',vs[j]? = some v'∧R K F H v' t' A'∧(∀ a,a∈A'→a∈A) ∧
  ∀ F' H' t2 A2,Same F F'→TupSub H H'→(∀ a,a∈A→a∉A'→H' a = H a)→R K F' H' v' t2 A2→(∀ a,a∈A2→a∈A→a∈A')→∃ A3,RA K F' H' vs (ts.set j t2) A3∧∀ a,a∈A3→a∈A2∨(a∈A∧a∉A')
 | _,_,_,_,_,.nil,h => by simp at h
 | _,_,_,0,_,.cons (v:=v) (A:=A) (B:=B) h1 h2 n,h => by
  simp at h; subst h
  refine ⟨v,A,rfl,h1,fun a z => List.mem_append_left _ z,fun F' H' t2 A2 e s k r i => ⟨A2++B,.cons r (h2.frame e s fun a z => k a (List.mem_append_right _ z) fun w => n a w z) fun a z w => ?_,fun a z => ?_⟩⟩
  ·exact n a (i a z (List.mem_append_right _ w)) w
  ·rcases List.mem_append.mp z with z | z
   ·exact .inl z
   ·exact .inr ⟨List.mem_append_right _ z,fun w => n a w z⟩
 | _,_,_,j + 1,_,.cons (v:=v) (A:=A) (B:=B) h1 h2 n,h => by
  obtain ⟨v',A',e0,r0,i0,put⟩:=RA.loc (j:=j) h2 (by simpa using h)
  refine ⟨v',A',by simpa using e0,r0,fun a z => List.mem_append_right _ (i0 a z),fun F' H' t2 A2 e s k r i => ?_⟩
  obtain ⟨A3,r3,i3⟩:=put F' H' t2 A2 e s (fun a z w => k a (List.mem_append_right _ z) w) r fun a z w => i a z (List.mem_append_right _ w)
  refine ⟨A++A3,.cons (h1.frame e s fun a z => k a (List.mem_append_left _ z) fun w => n a z (i0 a w)) r3 fun a z w => ?_,fun a z => ?_⟩
  ·rcases i3 a w with w | ⟨w,_⟩
   ·exact n a z (i0 a (i a w (List.mem_append_left _ z)))
   ·exact n a z w
  ·rcases List.mem_append.mp z with z | z
   ·exact .inr ⟨List.mem_append_left _ z,fun w => n a z (i0 a w)⟩
   ·rcases i3 a z with z | ⟨z,w⟩
    ·exact .inl z
    ·exact .inr ⟨List.mem_append_right _ z,w⟩
theorem Loc.item {a:Addr} {ts:List T} {vs:List V} {j:Nat} {t':T} (hH:H a = some (.lst vs)) (ra:RA K F H vs ts A) (n:a∉A) (h:ts[j]? = some t'):∃ v' A',vs[j]? = some v'∧Loc K F H (.ref a) (.lst ts) (a :: A) v' t' A' (fun u => .lst (ts.set j u)):=by
 obtain ⟨v',A',e0,r0,i0,put⟩:=RA.loc ra h
 refine ⟨v',A',e0,r0,fun b z => List.mem_cons_of_mem _ (i0 b z),fun F' H' t2 A2 e s k r i => ?_⟩
 obtain ⟨A3,r3,i3⟩:=put F' H' t2 A2 e s (fun b z w => k b (List.mem_cons_of_mem _ z) w) r fun b z w => i b z (List.mem_cons_of_mem _ w)
 have na:a∉A':=fun z => n (i0 a z)
 refine ⟨a :: A3,.lst ((k a List.mem_cons_self na).trans hH) r3 fun z => ?_,fun b z => ?_⟩
 ·rcases i3 a z with z | ⟨z,_⟩
  ·exact na (i a z List.mem_cons_self)
  ·exact n z
 ·rcases List.mem_cons.mp z with rfl | z
  ·exact .inr ⟨List.mem_cons_self,na⟩
  ·rcases i3 b z with z | ⟨z,w⟩
   ·exact .inl z
   ·exact .inr ⟨List.mem_cons_of_mem _ z,w⟩
theorem mut_loc {σ:St} {ρ:Rho} {fp fp0:Nat→List Addr} {F0 H0:Hp} {B:List Addr} (s:Sim K F H σ ρ fp) {i:Nat} {a:Addr} {xs ys:List T} {A' C:List Addr} {put:T→T} (hv:σ[i]? = some (some v)) (ht:ρ[i]? = some (some t)) (L:Loc K F H v t (fp i) (.ref a) (.lst xs) (a :: A') put) (x:Ext F0 H0 fp0 F H fp B)
  (bl:Live H B) (bf:∀ b,b∈B→F b = none) (bd:∀ b,b∈B→∀ j,b∉fp j) {vs1:List V} {rv:V} {rt:T} (na:a∉A') (lk:∃ vs0,H a = some (.lst vs0)) (h1:RA K F H vs1 ys A1) (h2:R K F H rv rt C) (i1:∀ b,b∈A1→b∈A'∨b∈B) (i2:∀ b,b∈C→b∈A'∨b∈B) (d:∀ b,b∈A1→b∉C) :
  ∃ fp1,Sim K F (upd H a (.lst vs1)) σ (ρ.set i (some (put (.lst ys)))) fp1∧Tmp K F (upd H a (.lst vs1)) fp1 rv rt C∧Ext F0 H0 fp0 F (upd H a (.lst vs1)) fp1 C:=by
 obtain ⟨vs0,lk⟩:=lk
 have ai:a∈fp i:=L.sub a List.mem_cons_self
 have aB:a∉B:=fun z => bd a z i ai
 have aA1:a∉A1:=fun z => by rcases i1 a z with z | z; exact na z; exact aB z
 have aC:a∉C:=fun z => by rcases i2 a z with z | z; exact na z; exact aB z
 have tu:TupSub H (upd H a (.lst vs1)):=fun b xs h => by
  by_cases c:b = a
  ·subst c; rw [lk] at h; cases h
  ·rw [upd_ne c]; exact h
 have st:∀ b,b≠a→(upd H a (.lst vs1)) b = H b:=fun b n => upd_ne n
 obtain ⟨A3,r3,i3⟩:=L.put F (upd H a (.lst vs1)) (.lst ys) (a :: A1) (Same.refl F) tu (fun b hb nb => st b fun e => nb (e ▸ List.mem_cons_self)) (.lst upd_same (h1.frame (Same.refl F) tu fun b hb => st b fun e => aA1 (e ▸ hb)) aA1) fun b hb hi => by
  (rcases List.mem_cons.mp hb with rfl | hb)
  ·exact List.mem_cons_self
  ·rcases i1 b hb with z | z
   ·exact List.mem_cons_of_mem _ z
   ·exact absurd hi (bd b z i)
 have c3:∀ b,b∈A3→b∈fp i∨b∈B:=fun b hb => by
  rcases i3 b hb with z | ⟨z,_⟩
  ·rcases List.mem_cons.mp z with rfl | z
   ·exact .inl ai
   ·rcases i1 b z with z | z
    ·exact .inl (L.sub b (List.mem_cons_of_mem _ z))
    ·exact .inr z
  ·exact .inl z
 have cC:∀ b,b∈C→b∈fp i∨b∈B:=fun b hb => by
  rcases i2 b hb with z | z
  ·exact .inl (L.sub b (List.mem_cons_of_mem _ z))
  ·exact .inr z
 have hlt:i < ρ.length:=(List.getElem?_eq_some_iff.mp ht).1
 have live1:∀ b,(∃ o,H b = some o∧isT o = false)→∃ o,(upd H a (.lst vs1)) b = some o∧isT o = false:=fun b ⟨o,e,q⟩ => by
  by_cases c:b = a
  ·subst c; exact ⟨_,upd_same,rfl⟩
  ·exact ⟨o,by rw [st b c]; exact e,q⟩
 have nf:F a = none:=s.ff i a ai
 have ownB:∀ b,b∈fp i∨b∈B→(∃ j,b∈fp0 j)∨H0 b = none:=fun b h => by
  rcases h with h | h
  ·exact x.own b (.inr ⟨i,h⟩)
  ·exact x.own b (.inl h)
 refine ⟨fun j => if j = i then A3 else fp j,⟨by simpa using s.len,fun j u h => ?_,fun j k n b hb hc => ?_,fun j b h => ?_,fun j b h => ?_,fun b o h => ?_⟩,⟨h2.frame (Same.refl F) tu fun b hb => st b fun e => aC (e ▸ hb),fun b hb j hj => ?_,fun b hb => ?_⟩,?_⟩
 ·by_cases c:j = i
  ·subst c
   rw [List.getElem?_set_self hlt] at h
   cases h
   exact ⟨v,hv,by rw [if_pos rfl]; exact r3⟩
  ·rw [List.getElem?_set_ne (Ne.symm c)] at h
   obtain ⟨w,e,r⟩:=s.sl j u h
   exact ⟨w,e,by rw [if_neg c]; exact r.frame (Same.refl F) tu fun b hb => st b fun e => s.dj j i c b hb (e ▸ ai)⟩
 ·split at hb
  ·split at hc
   ·rename_i e1 e2; exact n (e1.trans e2.symm)
   ·rename_i e1 e2
    rcases c3 b hb with z | z
    ·exact s.dj i k (fun e => e2 e.symm) b z hc
    ·exact bd b z k hc
  ·split at hc
   ·rename_i e1 e2
    rcases c3 b hc with z | z
    ·exact s.dj i j (fun e => e1 e.symm) b z hb
    ·exact bd b z j hb
   ·exact s.dj j k n b hb hc
 ·split at h
  ·rcases c3 b h with z | z
   ·exact s.ff i b z
   ·exact bf b z
  ·exact s.ff j b h
 ·split at h
  ·rcases c3 b h with z | z
   ·exact live1 b (s.mt i b z)
   ·exact live1 b (bl b z)
  ·exact live1 b (s.mt j b h)
 ·have:b≠a:=fun c => by subst c; rw [nf] at h; cases h
  rw [st b this]; exact s.sub b o h
 ·split at hj
  ·rename_i e
   rcases i3 b hj with z | ⟨z,w⟩
   ·rcases List.mem_cons.mp z with rfl | z
    ·exact aC hb
    ·exact d b z hb
   ·rcases i2 b hb with y | y
    ·exact w (List.mem_cons_of_mem _ y)
    ·exact bd b y i z
  ·rename_i e
   rcases cC b hb with z | z
   ·exact s.dj i j (fun q => e q.symm) b z hj
   ·exact bd b z j hj
 ·rcases cC b hb with z | z
  ·exact s.ff i b z
  ·exact bf b z
 ·have y:=x.poke (D:=a) (o:=.lst vs1) (x.own a (.inr ⟨i,ai⟩))
  refine ⟨y.keep,y.fsub,y.fnew,fun b hb => ?_⟩
  rcases hb with hb | ⟨j,hb⟩
  ·exact ownB b (cC b hb)
  ·split at hb
   ·exact ownB b (c3 b hb)
   ·exact x.own b (.inr ⟨j,hb⟩)
theorem mut_gen {σ:St} {ρ:Rho} {fp fp0:Nat→List Addr} {F0 H0:Hp} {B:List Addr} (s:Sim K F H σ ρ fp) {i:Nat} {a:Addr} {u u2:T} {ho:HO} {A' C:List Addr} {put:T→T} (hv:σ[i]? = some (some v)) (ht:ρ[i]? = some (some t)) (L:Loc K F H v t (fp i) (.ref a) u (a :: A') put) (x:Ext F0 H0 fp0 F H fp B)
  (bl:Live H B) (bf:∀ b,b∈B→F b = none) (bd:∀ b,b∈B→∀ j,b∉fp j) {rv:V} {rt:T} (na:a∉A') (ht0:isT ho = false) (h1:TupSub H (upd H a ho)→(∀ b,b≠a→(upd H a ho) b = H b)→R K F (upd H a ho) (.ref a) u2 (a :: A1)) (h2:R K F H rv rt C) (i1:∀ b,b∈A1→b∈A'∨b∈B) (i2:∀ b,b∈C→b∈A'∨b∈B) (d:∀ b,b∈A1→b∉C) :
  ∃ fp1,Sim K F (upd H a ho) σ (ρ.set i (some (put u2))) fp1∧Tmp K F (upd H a ho) fp1 rv rt C∧Ext F0 H0 fp0 F (upd H a ho) fp1 C:=by
 have ai:a∈fp i:=L.sub a List.mem_cons_self
 have aB:a∉B:=fun z => bd a z i ai
 have aC:a∉C:=fun z => by rcases i2 a z with z | z; exact na z; exact aB z
 have tu:TupSub H (upd H a ho):=fun b xs h => by
  by_cases c:b = a
  ·subst c
   obtain ⟨o,e,nt⟩:=s.mt i b ai
   rw [h] at e; cases e; cases nt
  ·rw [upd_ne c]; exact h
 have st:∀ b,b≠a→(upd H a ho) b = H b:=fun b n => upd_ne n
 obtain ⟨A3,r3,i3⟩:=L.put F (upd H a ho) u2 (a :: A1) (Same.refl F) tu (fun b hb nb => st b fun e => nb (e ▸ List.mem_cons_self)) (h1 tu st) fun b hb hi => by
  (rcases List.mem_cons.mp hb with rfl | hb)
  ·exact List.mem_cons_self
  ·rcases i1 b hb with z | z
   ·exact List.mem_cons_of_mem _ z
   ·exact absurd hi (bd b z i)
 have c3:∀ b,b∈A3→b∈fp i∨b∈B:=fun b hb => by
  rcases i3 b hb with z | ⟨z,_⟩
  ·rcases List.mem_cons.mp z with rfl | z
   ·exact .inl ai
   ·rcases i1 b z with z | z
    ·exact .inl (L.sub b (List.mem_cons_of_mem _ z))
    ·exact .inr z
  ·exact .inl z
 have cC:∀ b,b∈C→b∈fp i∨b∈B:=fun b hb => by
  rcases i2 b hb with z | z
  ·exact .inl (L.sub b (List.mem_cons_of_mem _ z))
  ·exact .inr z
 have hlt:i < ρ.length:=(List.getElem?_eq_some_iff.mp ht).1
 have live1:∀ b,(∃ o,H b = some o∧isT o = false)→∃ o,(upd H a ho) b = some o∧isT o = false:=fun b ⟨o,e,q⟩ => by
  by_cases c:b = a
  ·subst c; exact ⟨_,upd_same,ht0⟩
  ·exact ⟨o,by rw [st b c]; exact e,q⟩
 have nf:F a = none:=s.ff i a ai
 have ownB:∀ b,b∈fp i∨b∈B→(∃ j,b∈fp0 j)∨H0 b = none:=fun b h => by
  rcases h with h | h
  ·exact x.own b (.inr ⟨i,h⟩)
  ·exact x.own b (.inl h)
 refine ⟨fun j => if j = i then A3 else fp j,⟨by simpa using s.len,fun j u h => ?_,fun j k n b hb hc => ?_,fun j b h => ?_,fun j b h => ?_,fun b o h => ?_⟩,⟨h2.frame (Same.refl F) tu fun b hb => st b fun e => aC (e ▸ hb),fun b hb j hj => ?_,fun b hb => ?_⟩,?_⟩
 ·by_cases c:j = i
  ·subst c
   rw [List.getElem?_set_self hlt] at h
   cases h
   exact ⟨v,hv,by rw [if_pos rfl]; exact r3⟩
  ·rw [List.getElem?_set_ne (Ne.symm c)] at h
   obtain ⟨w,e,r⟩:=s.sl j u h
   exact ⟨w,e,by rw [if_neg c]; exact r.frame (Same.refl F) tu fun b hb => st b fun e => s.dj j i c b hb (e ▸ ai)⟩
 ·split at hb
  ·split at hc
   ·rename_i e1 e2; exact n (e1.trans e2.symm)
   ·rename_i e1 e2
    rcases c3 b hb with z | z
    ·exact s.dj i k (fun e => e2 e.symm) b z hc
    ·exact bd b z k hc
  ·split at hc
   ·rename_i e1 e2
    rcases c3 b hc with z | z
    ·exact s.dj i j (fun e => e1 e.symm) b z hb
    ·exact bd b z j hb
   ·exact s.dj j k n b hb hc
 ·split at h
  ·rcases c3 b h with z | z
   ·exact s.ff i b z
   ·exact bf b z
  ·exact s.ff j b h
 ·split at h
  ·rcases c3 b h with z | z
   ·exact live1 b (s.mt i b z)
   ·exact live1 b (bl b z)
  ·exact live1 b (s.mt j b h)
 ·have:b≠a:=fun c => by subst c; rw [nf] at h; cases h
  rw [st b this]; exact s.sub b o h
 ·split at hj
  ·rename_i e
   rcases i3 b hj with z | ⟨z,w⟩
   ·rcases List.mem_cons.mp z with rfl | z
    ·exact aC hb
    ·exact d b z hb
   ·rcases i2 b hb with y | y
    ·exact w (List.mem_cons_of_mem _ y)
    ·exact bd b y i z
  ·rename_i e
   rcases cC b hb with z | z
   ·exact s.dj i j (fun q => e q.symm) b z hj
   ·exact bd b z j hj
 ·rcases cC b hb with z | z
  ·exact s.ff i b z
  ·exact bf b z
 ·have y:=x.poke (D:=a) (o:=ho) (x.own a (.inr ⟨i,ai⟩))
  refine ⟨y.keep,y.fsub,y.fnew,fun b hb => ?_⟩
  rcases hb with hb | ⟨j,hb⟩
  ·exact ownB b (cC b hb)
  ·split at hb
   ·exact ownB b (c3 b hb)
   ·exact x.own b (.inr ⟨j,hb⟩)
end
end Hu
namespace Hu
open PySem L2
abbrev MutF:=List T→List T→Option (T × List T)
def gMut (i:Nat) (os:List Opd) (m:MutF):G T:=fun ρ => match getS ρ i with
 | some (.lst _) => gOs os (fun ts ρ => match getS ρ i with
  | some (.lst xs) => match m xs ts with
   | some (res,ys) => .ok res (ρ.set i (some (.lst ys)))
   | none => .bad
  | _ => .bad) ρ
 | _ => .bad
def MutO (K:Par) (r:V→List V→Hp→VK→Prop) (m:MutF):Prop:=∀ F H a vs0 xs A' vs ts B res ys,Same F H→H a = some (.lst vs0)→RA K F H vs0 xs A'→RA K F H vs ts B→(∀ b,b∈A'→b∉B)→m xs ts = some (res,ys)→∀ Q:VK,
 (∀ vs1 A1 rv C,RA K F H vs1 ys A1→R K F H rv res C→(∀ b,b∈A1→b∈A'∨b∈B)→(∀ b,b∈C→b∈A'∨b∈B)→(∀ b,b∈A1→b∉C)→Q rv (upd H a (.lst vs1)))→r (.ref a) vs H Q
def MutP (K:Par) (r:V→List V→Hp→VK→Prop) (m:MutF):Prop:=∀ F H a vs0 xs A' vs ts res ys,Same F H→H a = some (.lst vs0)→RA K F H vs0 xs A'→Paired (fun v t => ∃ A,R K F H v t A) vs ts→m xs ts = some (res,ys)→∀ Q:VK,
 (∀ vs1 A1 rv C,RA K F H vs1 ys A1→R K F H rv res C→(∀ b,b∈A1→b∈A')→(∀ b,b∈C→b∈A')→(∀ b,b∈A1→b∉C)→Q rv (upd H a (.lst vs1)))→r (.ref a) vs H Q
theorem mutO_ok {K:Par} {W:XW} {r:V→List V→Hp→VK→Prop} {m:MutF} {i:Nat} {gs:List (G T)} (hm:MutO K r m) {σ:St} {H:Hp} {Q:VK} (q:tG K W (gMut i (gs.map .val) m) σ H Q):∃ v,σ[i]? = some (some v)∧tyV K.K "list" v H∧tOs K W (gs.map .val) σ H fun vs H1 => r v vs H1 Q:=by
 obtain ⟨ρ,F,fp,s,q⟩:=q
 unfold gMut at q
 split at q
 ·rename_i xs0 h0
  obtain ⟨v,hv,r0⟩:=s.sl i _ (getS_some h0)
  refine ⟨v,hv,?_,?_⟩
  ·generalize fp i = A0 at r0
   cases r0 with
   | lst h1 _ _ => exact .inl ⟨rfl,_,.of h1⟩
  ·refine gOs_run (by simp [Opd.fine]) (Ext.refl F H fp) s q fun vs xs ts ρ' F' H' fp' B s' x ar fi _ q => ?_
   obtain ⟨ra,bd,bf⟩:=ar.vals fi
   clear ar fi
   split at q
   ·rename_i xs1 h1
    obtain ⟨v',hv',r1⟩:=s'.sl i _ (getS_some h1)
    rw [hv] at hv'; cases hv'
    split at q
    ·rename_i res ys hmm
     generalize hA:fp' i = A0 at r1
     cases r1 with
     | @lst a vs0 _ A' e1 e2 e3 =>
      refine hm F' H' a vs0 xs1 A' vs ts B res ys s'.sub e1 e2 ra (fun b z w => bd b w i (hA ▸ List.mem_cons_of_mem _ z)) hmm Q fun vs1 A1 rv C k1 k2 k3 k4 k5 => ?_
      obtain ⟨fp2,s2,m2,x2⟩:=mut_loc (xs:=xs1) (put:=id) (a:=a) (A':=A') s' hv (getS_some h1) (by rw [hA]; exact Loc.refl (.lst e1 e2 e3)) x ra.live bf bd e3 ⟨_,e1⟩ k1 k2 k3 k4 k5
      exact q rv F' _ fp2 C s2 m2 x2
    ·exact q.elim
   ·exact q.elim
 ·exact q.elim
theorem mutP_ok {K:Par} {W:XW} {r:V→List V→Hp→VK→Prop} {m:MutF} {i:Nat} {os:List Opd} (hf:os.all Opd.fine = true) (hm:MutP K r m) {σ:St} {H:Hp} {Q:VK} (q:tG K W (gMut i os m) σ H Q):∃ v,σ[i]? = some (some v)∧tyV K.K "list" v H∧tOs K W os σ H fun vs H1 => r v vs H1 Q:=by
 obtain ⟨ρ,F,fp,s,q⟩:=q
 unfold gMut at q
 split at q
 ·rename_i xs0 h0
  obtain ⟨v,hv,r0⟩:=s.sl i _ (getS_some h0)
  refine ⟨v,hv,?_,?_⟩
  ·generalize fp i = A0 at r0
   cases r0 with
   | lst h1 _ _ => exact .inl ⟨rfl,_,.of h1⟩
  ·refine gOs_run hf (Ext.refl F H fp) s q fun vs xs ts ρ' F' H' fp' B s' x ar fi pr q => ?_
   clear ar fi
   split at q
   ·rename_i xs1 h1
    obtain ⟨v',hv',r1⟩:=s'.sl i _ (getS_some h1)
    rw [hv] at hv'; cases hv'
    split at q
    ·rename_i res ys hmm
     generalize hA:fp' i = A0 at r1
     cases r1 with
     | @lst a vs0 _ A' e1 e2 e3 =>
      refine hm F' H' a vs0 xs1 A' vs ts res ys s'.sub e1 e2 pr hmm Q fun vs1 A1 rv C k1 k2 k3 k4 k5 => ?_
      obtain ⟨fp2,s2,m2,x2⟩:=mut_loc (B:=[]) (xs:=xs1) (put:=id) (a:=a) (A':=A') s' hv (getS_some h1) (by rw [hA]; exact Loc.refl (.lst e1 e2 e3)) x.nil (fun b z => absurd z (by simp)) (fun b z => absurd z (by simp)) (fun b z => absurd z (by simp)) e3 ⟨_,e1⟩ k1 k2 (fun b z => .inl (k3 b z)) (fun b z => .inl (k4 b z)) k5
      exact q rv F' _ fp2 C s2 m2 x2
    ·exact q.elim
   ·exact q.elim
 ·exact q.elim
section
variable {X:Cx} {cls:Str→Addr} {W:XW} {e:Expr} {es:List Expr} {os:List Opd} {pos p apos:Pos} {o:Opd} {x name:Str} {id:String} {r:V→List V→Hp→VK→Prop} {m:MutF} {i:Nat}
def fewC (es:List Expr):Bool:=decide (es.length < 30)
theorem few_ok {env:Env} (hs:anyStar (e :: es) = false) (hf:fewC (e :: es) = true):((backTo pos (starEach (e :: es) env)).all (fun x => !x.1)&&(backToKw pos (keywordEach [] env)).all (fun x => x.1.isSome)
   && decide ((e :: es).length + ([]:List Keyword).length + (if ([]:List Keyword).isEmpty then 0 else 1) < 30)) = true:=by
 have h1:=star_none (env:=env) (pos:=pos) hs
 have h2:(backTo pos (starEach (e :: es) env)).all (fun x => !x.1) = true:=by
  rw [List.all_eq_true]
  intro y hy
  have:=List.any_eq_false.mp h1 y hy
  simpa using this
 have h3:(e :: es).length < 30:=by simpa [fewC] using hf
 rw [h2]
 simp only [Bool.true_and,Bool.and_eq_true,decide_eq_true_eq]
 exact ⟨rfl,by simpa using h3⟩
theorem de_mutO (slot:Slot "list" name id) (hty:typeOf (.builtin id) = pure (.type "method_descriptor")) (hr:MtR X id r) (hm:MutO (Px X cls) r m) (hN:X.N[i]? = some x) (hv:Vis X.env.scope x) (hd:(x == ("__debug__":Str)) = false) (hcd:(x == ("__classdict__":Str)) = false)
  (h:DAs X cls W (e :: es) os) (hb:attributeBase (.Name x p) name X.env (eval (.Name x p) X.env) = eval (.Name x p) X.env) (hl:(apos.endLine == pos.line) = true) (hf:fewC (e :: es) = true) :
  DE X cls W (.Call (.Attribute (.Name x p) name apos) (e :: es) [] pos) (.val (gMut i ((os.map Opd.vg).map .val) m)):=by
 have hst:anyStar (e :: es) = false:=h.star
 have hst2:=hst
 simp only [anyStar,List.any_cons,Bool.or_eq_false_iff] at hst
 have ho:=h.own.pa
 rw [vals_map] at ho
 exact ⟨(pe_bm PySem.F.plainAttrs_list slot hty hr (pe_var hN hv hd hcd) ho hb (few_ok hst2 hf) hl (star_cons hst.1) (star_none hst.2)).imp fun σ H Q q => mutO_ok hm q,rfl⟩
theorem de_mutP (slot:Slot "list" name id) (hty:typeOf (.builtin id) = pure (.type "method_descriptor")) (hr:MtR X id r) (hm:MutP (Px X cls) r m) (hN:X.N[i]? = some x) (hv:Vis X.env.scope x) (hd:(x == ("__debug__":Str)) = false) (hcd:(x == ("__classdict__":Str)) = false)
  (h:DAs X cls W (e :: es) os) (hb:attributeBase (.Name x p) name X.env (eval (.Name x p) X.env) = eval (.Name x p) X.env) (hl:(apos.endLine == pos.line) = true) (hf:fewC (e :: es) = true) :
  DE X cls W (.Call (.Attribute (.Name x p) name apos) (e :: es) [] pos) (.val (gMut i os m)):=by
 have hst:anyStar (e :: es) = false:=h.star
 have hst2:=hst
 simp only [anyStar,List.any_cons,Bool.or_eq_false_iff] at hst
 exact ⟨(pe_bm PySem.F.plainAttrs_list slot hty hr (pe_var hN hv hd hcd) h.pa hb (few_ok hst2 hf) hl (star_cons hst.1) (star_none hst.2)).imp fun σ H Q q => mutP_ok h.fine hm q,rfl⟩
theorem de_mut0 (slot:Slot "list" name id) (hty:typeOf (.builtin id) = pure (.type "method_descriptor")) (hr:MtR X id r) (hm:MutP (Px X cls) r m) (hN:X.N[i]? = some x) (hv:Vis X.env.scope x) (hd:(x == ("__debug__":Str)) = false) (hcd:(x == ("__classdict__":Str)) = false)
  (hb:attributeBase (.Name x p) name X.env (eval (.Name x p) X.env) = eval (.Name x p) X.env) (hl:(apos.endLine == pos.line) = true) :
  DE X cls W (.Call (.Attribute (.Name x p) name apos) [] [] pos) (.val (gMut i [] m)):=
 ⟨(pe_bm0 PySem.F.plainAttrs_list slot hty hr (pe_var hN hv hd hcd) hb hl).imp fun σ H Q q => mutP_ok (os:=[]) rfl hm q,rfl⟩
end
def mApp:MutF
 | xs,[t] => if xs.length < sizeLine then some (.d .none,xs++[t]) else none
 | _,_ => none
theorem o_app {K:Par}:MutO K rAppend mApp:=fun F H a vs0 xs A' vs ts B res ys e h1 h2 h3 d hm Q k => by
 unfold mApp at hm
 split at hm
 ·rename_i t
  split at hm
  ·rename_i hz
   cases hm
   obtain ⟨v,rfl,r⟩:=h3.one'
   exact ⟨a,vs0,v,rfl,rfl,h1,by rw [h2.length]; exact hz,k _ (A'++B) .non [] (RA.append h2 r d) (.d .non) (fun b z => List.mem_append.mp z) (by simp) (by simp)⟩
  ·cases hm
 ·cases hm
def mExt:MutF
 | xs,[t] => match listOf t with
  | some ds => if xs.length + ds.length≤sizeLine then some (.d .none,xs++ds.map .d) else none
  | none => none
 | _,_ => none
theorem p_ext {K:Par}:MutP K rExtend mExt:=fun F H a vs0 xs A' vs ts res ys e h1 h2 h3 hm Q k => by
 unfold mExt at hm
 split at hm
 ·rename_i t
  split at hm
  ·rename_i ds hd
   split at hm
   ·rename_i hz
    cases hm
    obtain ⟨v,rfl,A,r⟩:=pairedOne h3
    obtain ⟨b,zs,rfl,hb,fz⟩:=listOf_at e r hd
    refine ⟨a,b,vs0,zs,rfl,rfl,h1,hb,by rw [h2.length,fz.length]; exact hz,k _ (A'++[]) .non [] (RA.join h2 (RA.dats fz) (by simp)) (.d .non) (by simp) (by simp) (by simp)⟩
   ·cases hm
  ·cases hm
 ·cases hm
def mPop:MutF
 | xs,[] => match xs.getLast? with
  | some t => some (t,xs.dropLast)
  | none => none
 | _,_ => none
theorem p_pop {K:Par}:MutP K rPop mPop:=fun F H a vs0 xs A' vs ts res ys e h1 h2 h3 hm Q k => by
 unfold mPop at hm
 split at hm
 ·split at hm
  ·rename_i t ht
   simp only [Option.some.injEq,Prod.mk.injEq] at hm
   obtain ⟨rfl,rfl⟩:=hm
   cases h3
   have hx:xs = xs.dropLast++[t]:=by
    rw [List.getLast?_eq_some_iff] at ht
    obtain ⟨zs,rfl⟩:=ht
    simp
   rw [hx] at h2
   obtain ⟨vs1,vs2,A1,A2,rfl,r1,r2,rfl,d⟩:=RA.split h2
   obtain ⟨v,rfl,r3⟩:=r2.one'
   exact ⟨a,_,v,rfl,rfl,h1,by simp,by simpa using k vs1 A1 v A2 r1 r3 (fun b z => List.mem_append_left _ z) (fun b z => List.mem_append_right _ z) d⟩
  ·cases hm
 ·cases hm
def mPopAt:MutF
 | xs,[.d (.int i)] => if decide (i.natAbs < 2 ^ 63) = true then match seqIndex? i xs.length with
   | some k => match xs[k]? with
    | some t => some (t,xs.eraseIdx k)
    | none => none
   | none => none
  else none
 | _,_ => none
theorem p_popAt {K:Par}:MutP K rPopAt mPopAt:=fun F H a vs0 xs A' vs ts res ys e h1 h2 h3 hm Q k => by
 unfold mPopAt at hm
 split at hm
 ·rename_i i
  split at hm
  ·rename_i hi
   simp only [decide_eq_true_eq] at hi
   split at hm
   ·rename_i j hj
    split at hm
    ·rename_i t ht
     simp only [Option.some.injEq,Prod.mk.injEq] at hm
     obtain ⟨rfl,rfl⟩:=hm
     obtain ⟨v,rfl,A,r⟩:=pairedOne h3
     rw [r.int]
     have lt:j < xs.length:=(List.getElem?_eq_some_iff.mp ht).1
     have e1:xs[j] = t:=(List.getElem?_eq_some_iff.mp ht).2
     have hx:xs = xs.take j++t :: xs.drop (j + 1):=by
      rw [← e1]; simp
     have hl:=h2.length
     have h2':=h2
     rw [hx] at h2'
     obtain ⟨vs1,vs2,A1,A2,e2,r1,r2,e3,d⟩:=RA.split h2'
     cases r2 with
     | @cons v vs2 _ _ A3 A4 r3 r4 n =>
      subst e2 e3
      have l1:vs1.length = j:=by have:=r1.length; simp at this; omega
      refine ⟨a,_,i,j,v,rfl,rfl,h1,by omega,by omega,by rw [hl]; exact hj,by rw [← l1]; simp,?_⟩
      have e4:(vs1++v :: vs2).eraseIdx j = vs1++vs2:=by rw [List.eraseIdx_append_of_length_le (by omega)]; simp [l1]
      have e5:xs.eraseIdx j = xs.take j++xs.drop (j + 1):=List.eraseIdx_eq_take_drop_succ ..
      rw [e4]
      refine k _ (A1++A4) v A3 (by rw [e5]; exact RA.join r1 r4 fun b z w => d b z (List.mem_append_right _ w)) r3 (fun b z => ?_) (fun b z => by simp [z]) fun b z w => ?_
      ·rcases List.mem_append.mp z with z | z
       ·exact List.mem_append_left _ z
       ·exact List.mem_append_right _ (List.mem_append_right _ z)
      ·rcases List.mem_append.mp z with z | z
       ·exact d b z (List.mem_append_left _ w)
       ·exact n b w z
    ·cases hm
   ·cases hm
  ·cases hm
 ·cases hm
def mRev:MutF
 | xs,[] => some (.d .none,xs.reverse)
 | _,_ => none
def mClr:MutF
 | _,[] => some (.d .none,[])
 | _,_ => none
end Hu
namespace Hu
open PySem L2
open PyProof.Rows (chain_last chain_link test_last test_link ite_ff ite_tt Compare_chain isTrue_chain)
def gInt (g:G T):G Int:=fun ρ => (g ρ).bind fun t ρ' => match t with
 | .d (.int i) => .ok i ρ'
 | _ => .bad
theorem tG_int {K:Par} {W:XW} {α:Type} {g:G T} {f:Int→G α} {P:α→Rho→Prop} {F H F0 H0:Hp} {fp fp0:Nat→List Addr} {A0:List Addr} {σ:St} {ρ:Rho} {Q:VK} (x0:Ext F0 H0 fp0 F H fp A0) (s:Sim K F H σ ρ fp) (o:OutR K W F0 H0 σ fp0 P ((gInt g ρ).bind f))
  (k:∀ i ρ' F' H' fp',Sim K F' H' σ ρ' fp'→Ext F H fp F' H' fp' []→OutR K W F0 H0 σ fp0 P (f i ρ')→Q (.int i) H'):tG K W g σ H Q:=by
 refine ⟨ρ,F,fp,s,?_⟩
 unfold gInt at o
 cases c:g ρ with
 | bad => rw [c] at o; exact o.elim
 | ex a b d => rw [c] at o; exact PostX.shift o x0
 | ok t ρ' =>
  rw [c] at o
  intro v F' H' fp' A s' m x
  simp only [Out.bind] at o
  split at o
  ·rename_i e
   split at e
   ·rename_i i
    cases e
    rw [m.r.int]
    exact k _ _ F' H' fp' s' x.nil o
   ·cases e
  ·rename_i e
   split at e <;> cases e
  ·exact o.elim
def gCh:List (Int→Int→Bool)→List (G Int)→Int→G Bool
 | [k],[g],i,ρ => (g ρ).bind fun j ρ' => .ok (k i j) ρ'
 | k :: ks,g :: gs,i,ρ => (g ρ).bind fun j ρ' => if k i j = true then gCh ks gs j ρ' else .ok false ρ'
 | _,_,_,_ => .bad
section
variable {X:Cx} {cls:Str→Addr} {W:XW} {e a b c:Expr} {es:List Expr} {os:List Opd} {pos p:Pos} {oa ob oc o:Opd} {x:Str}
inductive Chn (X:Cx) (cls:Str→Addr) (W:XW):List CmpOp→List Expr→List (Int→Int→Bool)→List (G Int)→Prop
 | one {op e k o}:OpR X (compareOp op) (rI0 fun i j => .bl (k i j))→DE X cls W e o→Chn X cls W [op] [e] [k] [gInt o.vg]
 | cons {op op2 ops e es k k2 ks o g2 gs}:OpR X (compareOp op) (rI0 fun i j => .bl (k i j))→DE X cls W e o→Chn X cls W (op2 :: ops) es (k2 :: ks) (g2 :: gs)→Chn X cls W (op :: op2 :: ops) (e :: es) (k :: k2 :: ks) (gInt o.vg :: g2 :: gs)
theorem Chn.ev:∀ {ops:List CmpOp} {es:List Expr} {ks:List (Int→Int→Bool)} {gs:List (G Int)},Chn X cls W ops es ks gs→∃ e es',es = e :: es'
 | _,_,_,_,.one _ _ => ⟨_,_,rfl⟩
 | _,_,_,_,.cons _ _ _ => ⟨_,_,rfl⟩
theorem Chn.val:∀ {ops:List CmpOp} {es:List Expr} {ks:List (Int→Int→Bool)} {gs:List (G Int)},Chn X cls W ops es ks gs→∀ {pins:List (Addr × Obj)} {s:Shared} {σ:St} {H H0 F F0:Hp} {fp fp0:Nat→List Addr} {A0:List Addr} {ρ:Rho} {i:Int} {v:Value} {Q:VK},Inv X pins σ H s→RelV (.int i) v →
  Ext F0 H0 fp0 F H fp A0→Sim (Px X cls) F H σ ρ fp→OutR (Px X cls) W F0 H0 σ fp0 (PostB (Px X cls) F0 H0 σ fp0 fun k H' => Q (.bl k) H') (gCh ks gs i ρ)→wpAny (model X.prog X.w) X.A (compareChain pos v ops (evalEach es X.env)) (EP X pins σ Q) X.xe s
 | _,_,_,_,.one (k:=k) ho he,pins,s,σ,H,H0,F,F0,fp,fp0,A0,ρ,i,v,Q,I,r,x0,sm,o => by
  simp only [gCh] at o
  have t:=tG_int (f:=fun j ρ' => .ok (k i j) ρ') (Q:=fun y H' => ∃ j,y = .int j∧Q (.bl (k i j)) H') x0 sm o fun j ρ' F' H' fp' s' x' o' => ⟨j,rfl,o' F' H' fp' s' ((x0.trans x').nil)⟩
  exact chain_last (thn (he.own.run pins s σ H _ I t) fun u s1 ⟨y,H1,I1,r1,j,e1,q1⟩ => ho pins s1 σ H1 (.int i) y v u Q I1 r r1 ⟨i,j,rfl,e1,q1⟩)
 | _,_,_,_,.cons (op:=op) (op2:=op2) (ops:=ops) (k:=k) (k2:=k2) (ks:=ks) (g2:=g2) (gs:=gs) (es:=es) ho he hr,pins,s,σ,H,H0,F,F0,fp,fp0,A0,ρ,i,v,Q,I,r,x0,sm,o => by
  obtain ⟨e2,es2,rfl⟩:=hr.ev
  simp only [gCh] at o
  have t:=tG_int (f:=fun j ρ' => if k i j = true then gCh (k2 :: ks) (g2 :: gs) j ρ' else .ok false ρ') (Q:=fun y H' => ∃ j ρ' F' fp',y = .int j∧Sim (Px X cls) F' H' σ ρ' fp'∧Ext F0 H0 fp0 F' H' fp' []∧OutR (Px X cls) W F0 H0 σ fp0 (PostB (Px X cls) F0 H0 σ fp0 fun k H' => Q (.bl k) H') (if k i j = true then gCh (k2 :: ks) (g2 :: gs) j ρ' else .ok false ρ'))
   x0 sm o fun j ρ' F' H' fp' s' x' o' => ⟨j,ρ',F',fp',rfl,s',(x0.trans x').nil,o'⟩
  refine chain_link (thn (he.own.run pins s σ H _ I t) fun u s1 hh => ?_)
  obtain ⟨y,H1,I1,r1,j,ρ',F',fp',e1,s',x',o'⟩:=hh
  refine thn (ho pins s1 σ H1 (.int i) y v u (fun z H2 => z = .bl (k i j)∧H2 = H1) I1 r r1 ⟨i,j,rfl,e1,rfl,rfl⟩) fun d s2 hh => ?_
  obtain ⟨z,H2,I2,r2,e2,e3⟩:=hh
  subst e1 e2 e3
  cases r2
  refine wpAny_truthy_bool ?_
  cases hk:k i j with
  | false =>
   rw [hk] at o'
   exact ite_ff ⟨.bl false,_,I2,rfl,o' F' _ fp' s' x'⟩
  | true =>
   rw [hk] at o'
   exact ite_tt (Chn.val hr I2 r1 x' s' o')
theorem Chn.test:∀ {ops:List CmpOp} {es:List Expr} {ks:List (Int→Int→Bool)} {gs:List (G Int)},Chn X cls W ops es ks gs→∀ {pins:List (Addr × Obj)} {s:Shared} {σ:St} {H H0 F F0:Hp} {fp fp0:Nat→List Addr} {A0:List Addr} {ρ:Rho} {i:Int} {v:Value} {Q:Bool→Hp→Prop},Inv X pins σ H s→RelV (.int i) v →
  Ext F0 H0 fp0 F H fp A0→Sim (Px X cls) F H σ ρ fp→OutR (Px X cls) W F0 H0 σ fp0 (PostB (Px X cls) F0 H0 σ fp0 Q) (gCh ks gs i ρ)→wpAny (model X.prog X.w) X.A (testChain pos v ops (evalEach es X.env)) (TP X pins σ Q) X.xe s
 | _,_,_,_,.one (k:=k) ho he,pins,s,σ,H,H0,F,F0,fp,fp0,A0,ρ,i,v,Q,I,r,x0,sm,o => by
  simp only [gCh] at o
  have t:=tG_int (f:=fun j ρ' => .ok (k i j) ρ') (Q:=fun y H' => ∃ j,y = .int j∧Q (k i j) H') x0 sm o fun j ρ' F' H' fp' s' x' o' => ⟨j,rfl,o' F' H' fp' s' ((x0.trans x').nil)⟩
  refine test_last (thn (he.own.run pins s σ H _ I t) fun u s1 hh => ?_)
  obtain ⟨y,H1,I1,r1,j,e1,q1⟩:=hh
  refine thn (ho pins s1 σ H1 (.int i) y v u (fun z H2 => z = .bl (k i j)∧H2 = H1) I1 r r1 ⟨i,j,rfl,e1,rfl,rfl⟩) fun d s2 hh => ?_
  obtain ⟨z,H2,I2,r2,e2,e3⟩:=hh
  subst e2 e3
  cases r2
  exact wpAny_truthy_bool ⟨_,I2,q1⟩
 | _,_,_,_,.cons (op:=op) (op2:=op2) (ops:=ops) (k:=k) (k2:=k2) (ks:=ks) (g2:=g2) (gs:=gs) (es:=es) ho he hr,pins,s,σ,H,H0,F,F0,fp,fp0,A0,ρ,i,v,Q,I,r,x0,sm,o => by
  obtain ⟨e2,es2,rfl⟩:=hr.ev
  simp only [gCh] at o
  have t:=tG_int (f:=fun j ρ' => if k i j = true then gCh (k2 :: ks) (g2 :: gs) j ρ' else .ok false ρ') (Q:=fun y H' => ∃ j ρ' F' fp',y = .int j∧Sim (Px X cls) F' H' σ ρ' fp'∧Ext F0 H0 fp0 F' H' fp' []∧OutR (Px X cls) W F0 H0 σ fp0 (PostB (Px X cls) F0 H0 σ fp0 Q) (if k i j = true then gCh (k2 :: ks) (g2 :: gs) j ρ' else .ok false ρ'))
   x0 sm o fun j ρ' F' H' fp' s' x' o' => ⟨j,ρ',F',fp',rfl,s',(x0.trans x').nil,o'⟩
  refine test_link (thn (he.own.run pins s σ H _ I t) fun u s1 hh => ?_)
  obtain ⟨y,H1,I1,r1,j,ρ',F',fp',e1,s',x',o'⟩:=hh
  refine thn (ho pins s1 σ H1 (.int i) y v u (fun z H2 => z = .bl (k i j)∧H2 = H1) I1 r r1 ⟨i,j,rfl,e1,rfl,rfl⟩) fun d s2 hh => ?_
  obtain ⟨z,H2,I2,r2,e2,e3⟩:=hh
  subst e1 e2 e3
  cases r2
  refine wpAny_truthy_bool ?_
  cases hk:k i j with
  | false =>
   rw [hk] at o'
   exact ite_ff ⟨_,I2,o' F' _ fp' s' x'⟩
  | true =>
   rw [hk] at o'
   exact ite_tt (Chn.test hr I2 r1 x' s' o')
def gChn (g:G T) (ks:List (Int→Int→Bool)) (gs:List (G Int)):G Bool:=fun ρ => (gInt g ρ).bind fun i ρ' => gCh ks gs i ρ'
def gChV (g:G T) (ks:List (Int→Int→Bool)) (gs:List (G Int)):G T:=fun ρ => (gChn g ks gs ρ).bind fun k ρ' => .ok (.d (.bool k)) ρ'
theorem de_chain {op op2:CmpOp} {ops:List CmpOp} {ks:List (Int→Int→Bool)} {gs:List (G Int)} (ha:DE X cls W a oa) (h:Chn X cls W (op :: op2 :: ops) (b :: c :: es) ks gs) (hm:lastMarks (op :: op2 :: ops) (b :: c :: es) = false):DE X cls W (.Compare a (op :: op2 :: ops) (b :: c :: es) pos) (.val (gChV oa.vg ks gs)):=by
 refine ⟨⟨fun pins s σ H Q I q => ?_⟩,rfl⟩
 obtain ⟨ρ,F,fp,sm,o⟩:=q
 have o:OutR (Px X cls) W F H σ fp (PostB (Px X cls) F H σ fp fun k H' => Q (.bl k) H') (gChn oa.vg ks gs ρ) :=
  OutR.imp (OutR.bind o) (Ext.refl F H fp) fun k ρ' _ q F' H' fp' s' x' => q (.bl k) F' H' fp' [] s' (Tmp.frz (.bl k)) x'
 have t:=tG_int (Q:=fun y H' => ∃ j ρ' F' fp',y = .int j∧Sim (Px X cls) F' H' σ ρ' fp'∧Ext F H fp F' H' fp' []∧OutR (Px X cls) W F H σ fp (PostB (Px X cls) F H σ fp fun k H' => Q (.bl k) H') (gCh ks gs j ρ')) (Ext.refl F H fp) sm o fun j ρ' F' H' fp' s' x' o' => ⟨j,ρ',F',fp',rfl,s',x',o'⟩
 refine Compare_chain (thn (ha.own.run pins s σ H _ I t) fun u s1 hh => ?_) hm
 obtain ⟨y,H1,I1,r1,j,ρ',F',fp',e1,s',x',o'⟩:=hh
 subst e1
 exact h.val I1 r1 x' s' o'
end
end Hu
namespace Hu
open PySem L2
theorem tC_at {K:Par} {W:XW} {o:Opd} {σ:St} {H:Hp} {Q:VK} (h:tOs K W [o] σ H fun vs H1 => ∃ v,vs = [v]∧Q v H1):tO K W o σ H Q:=by
 refine tO_mono h fun v H1 q => ?_
 obtain ⟨w,e,q⟩:=q
 cases e; exact q
section
variable {X:Cx} {cls:Str→Addr} {W:XW} {e a b c:Expr} {pos p p2 pt:Pos} {oa ob oc o:Opd} {x y:Str} {i j:Nat}
theorem RA.put {K:Par} {F H:Hp} {vs:List V} {ts:List T} {A B:List Addr} {v:V} {t:T} {j:Nat} (h:RA K F H vs ts A) (hj:j < ts.length) (r:R K F H v t B) (d:∀ a,a∈A→a∉B):∃ A1,RA K F H (vs.set j v) (ts.set j t) A1∧∀ a,a∈A1→a∈A∨a∈B:=by
 have hx:ts = ts.take j++ts[j] :: ts.drop (j + 1):=by simp
 have h':=h
 rw [hx] at h'
 obtain ⟨vs1,vs2,A1,A2,e2,r1,r2,e3,dd⟩:=RA.split h'
 cases r2 with
 | @cons w vs2 _ _ A3 A4 r3 r4 n =>
  subst e2 e3
  have l1:vs1.length = j:=by have:=r1.length; simp at this; omega
  have e4:(vs1++w :: vs2).set j v = vs1++v :: vs2:=by rw [List.set_append_right _ _ (by omega)]; simp [l1]
  have e5:ts.set j t = ts.take j++t :: ts.drop (j + 1):=by rw [List.set_eq_take_append_cons_drop,if_pos hj]
  refine ⟨A1++(B++A4),?_,fun a z => ?_⟩
  ·rw [e4,e5]
   refine RA.join r1 (.cons r r4 fun a z w => d a (by simp [w]) z) fun a z w => ?_
   rcases List.mem_append.mp w with w | w
   ·exact d a (by simp [z]) w
   ·exact dd a z (by simp [w])
  ·rcases List.mem_append.mp z with z | z
   ·exact .inl (by simp [z])
   ·rcases List.mem_append.mp z with z | z
    ·exact .inr z
    ·exact .inl (by simp [z])
def setRs:List Nat→List T→Rho→Option Rho
 | [],[],ρ => some ρ
 | i :: is,t :: ts,ρ => (setS i t ρ).bind fun ρ' => setRs is ts ρ'
 | _,_,_ => none
def setVs:List Nat→List V→St→St
 | i :: is,v :: vs,σ => setVs is vs (σ.set i (some v))
 | _,_,σ => σ
theorem sets_ok {K:Par} {F H:Hp}:∀ {is:List Nat} {vs:List V} {ts:List T} {A:List Addr} {σ:St} {ρ ρ':Rho} {fp:Nat→List Addr},Sim K F H σ ρ fp→RA K F H vs ts A→(∀ a,a∈A→∀ i,a∉fp i)→(∀ a,a∈A→F a = none)→setRs is ts ρ = some ρ' →
  ∃ fp',Sim K F H (setVs is vs σ) ρ' fp'∧(∀ b i,b∈fp' i→(∃ j,b∈fp j)∨b∈A)∧Ag is σ (setVs is vs σ)
 | [],_,_,_,σ,ρ,ρ',fp,s,.nil,d,f,h => by
  simp only [setRs,Option.some.injEq] at h
  subst h
  exact ⟨fp,s,fun b i z => .inl ⟨i,z⟩,Ag.refl _ _⟩
 | [],_,_,_,σ,ρ,ρ',fp,s,.cons _ _ _,d,f,h => by simp [setRs] at h
 | i :: is,_,_,_,σ,ρ,ρ',fp,s,.nil,d,f,h => by simp [setRs] at h
 | i :: is,_,_,_,σ,ρ,ρ',fp,s,.cons (v:=v) (vs:=vs) (t:=t) (ts:=ts) (A:=A) (B:=B) r1 r2 n,d,f,h => by
  simp only [setRs,Option.bind_eq_some_iff] at h
  obtain ⟨ρ1,h1,h2⟩:=h
  unfold setS at h1
  split at h1
  ·rename_i l
   cases h1
   have s1:=s.set (i:=i) ⟨r1,fun b z => d b (List.mem_append_left _ z),fun b z => f b (List.mem_append_left _ z)⟩ l
   obtain ⟨fp',s2,c2,g2⟩:=sets_ok s1 r2 (fun b z j w => by
    split at w
    ·exact n b w z
    ·exact d b (List.mem_append_right _ z) j w) (fun b z => f b (List.mem_append_right _ z)) h2
   refine ⟨fp',s2,fun b k z => ?_,(Ag.set.trans g2).mono fun k z => by simpa using z⟩
   rcases c2 b k z with ⟨j,w⟩ | w
   ·split at w
    ·exact .inr (List.mem_append_left _ w)
    ·exact .inl ⟨j,w⟩
   ·exact .inr (List.mem_append_right _ w)
  ·cases h1
def sPar (is:List Nat) (gs:List (G T)):SG:=fun ρ => (gOs (gs.map .val) (fun ts ρ' => match setRs is ts ρ' with
 | some ρ2 => .ok () ρ2
 | none => .bad) ρ).s fun _ ρ' => .nx ρ'
theorem par_ok {K:Par} {is:List Nat} {gs:List (G T)} {D:Ends} {σ:St} {H:Hp} (q:tS K W is (sPar is gs) D σ H):tOs K W (gs.map .val) σ H fun vs H1 => D.nx (setVs is vs σ) H1:=by
 obtain ⟨ρ,F,fp,s,q⟩:=q
 refine gOs_run (by simp [Opd.fine]) (Ext.refl F H fp) s q.run fun vs xs ts ρ' F' H' fp' B s' x ar fi _ q => ?_
 obtain ⟨ra,bd,bf⟩:=ar.vals fi
 clear ar fi
 split at q
 ·rename_i ρ2 h2
  obtain ⟨fp2,s2,c2,g2⟩:=sets_ok s' ra bd bf h2
  exact q _ F' H' fp2 s2 (x.cells c2) g2
 ·exact q.elim
theorem tOs_imp {K:Par} {σ:St}:∀ {gs:List (G T)} {H:Hp} {Q Q':List V→Hp→Prop},tOs K W (gs.map .val) σ H Q→(∀ vs H1,Q vs H1→Q' vs H1)→tOs K W (gs.map .val) σ H Q'
 | [],_,_,_,h,i => i _ _ h
 | g :: gs,_,_,_,h,i => tO_mono (o:=.val g) h fun v H1 q => tOs_imp (gs:=gs) q fun vs H2 q => i _ _ q
theorem tOs_len {K:Par} {σ:St}:∀ {gs:List (G T)} {H:Hp} {Q:List V→Hp→Prop},tOs K W (gs.map .val) σ H Q→tOs K W (gs.map .val) σ H fun vs H1 => vs.length = gs.length∧Q vs H1
 | [],_,_,h => ⟨rfl,h⟩
 | g :: gs,_,_,h => tO_mono (o:=.val g) h fun v H1 q => tOs_imp (tOs_len (gs:=gs) q) fun vs H2 ⟨e,q⟩ => ⟨by simp [e],q⟩
theorem ds_par {k1 k2:Nat} {px py pt2:Pos} (hc:X.calm = true) (hN:X.N.Nodup) (hi:X.N[i]? = some x) (hj:X.N[j]? = some y) (hij:i≠j) (hx:X.env.scope.names.lookup x = some .local) (hy:X.env.scope.names.lookup y = some .local) (ha:DAs X cls W [a,b] [oa,ob])
  (hw:swappedStores [.Tuple [.Name x px,.Name y py] k1 pt] (.Tuple [a,b] k2 pt2) X.env = pure (some [x,y])) (hs:swapsWithSole [.Tuple [.Name x px,.Name y py] k1 pt] (.Tuple [a,b] k2 pt2) pos.line X.env = pure false) :
  DS X cls W (.Assign [.Tuple [.Name x px,.Name y py] k1 pt] (.Tuple [a,b] k2 pt2) pos) [i,j] (sPar [i,j] [oa.vg,ob.vg]) :=
 (ps_par hc hN hi hj hij hx hy ha.own.pa hw hs).imp fun D σ H q => tOs_imp (gs:=[oa.vg,ob.vg]) (tOs_len (par_ok q)) fun vs H1 ⟨e,q⟩ => by
  match vs,e,q with
  | [v,w],_,q => exact ⟨v,w,rfl,q⟩
def sAug (i:Nat) (k:Int→Int→Int) (g:G T):SG:=fun ρ => match getS ρ i with
 | some (.d (.int a)) => (gInt g ρ).s fun b ρ' => match setS i (.d (.int (k a b))) ρ' with
  | some ρ2 => .nx ρ2
  | none => .bad
 | _ => .bad
end
end Hu
namespace Hu
open PySem L2
inductive MOut where
 | fin (ts:List T) (ρ:Rho)
 | out (o:SOut)
theorem set_same {σ:St} {i:Nat} {v:V} (h:σ[i]? = some (some v)):σ.set i (some v) = σ:=by
 apply List.ext_getElem?
 intro k
 by_cases c:i = k
 ·subst c
  rw [List.getElem?_set_self (List.getElem?_eq_some_iff.mp h).1,h]
 ·rw [List.getElem?_set_ne c]
section
variable {X:Cx} {cls:Str→Addr} {W:XW} {pos p p2:Pos} {x y:Str} {i j:Nat} {st:List Nat} {g:SG} {body:List Stmt}
end
end Hu
namespace Hu
open PySem L2
def keyOf:T→Option Key
 | .d (.int i) => some (.inl i)
 | .d (.str z) => some (.inr z)
 | _ => none
def keyD:D→Option Key
 | .int i => some (.inl i)
 | .str z => some (.inr z)
 | _ => none
def keysD:List D→Option (List Key)
 | [] => some []
 | x :: xs => match keyD x,keysD xs with
  | some k,some ks => some (k :: ks)
  | _,_ => none
def tkeyOf:T→Option (List Key)
 | .d (.tuple ds) => keysD ds
 | _ => none
section
variable {K:Par} {F H:Hp} {v:V} {t:T} {A:List Addr}
theorem keyOf_at {k:Key} (r:R K F H v t A) (h:keyOf t = some k):v = kV k:=by
 unfold keyOf at h
 split at h
 ·cases h; rw [r.int]; rfl
 ·cases h; rw [r.str]; rfl
 ·cases h
theorem keysD_at {K:Par} {F:Hp}:∀ {vs:List V} {ds:List D} {ks:List Key},FzA K F vs ds→keysD ds = some ks→vs = ks.map kV
 | _,_,ks,.nil,h => by simp [keysD] at h; subst h; rfl
 | _,_,ks,.cons (x:=x) (xs:=xs) h1 h2,h => by
  simp only [keysD] at h
  cases q1:keyD x with
  | none => rw [q1] at h; simp at h
  | some k =>
   cases q2:keysD xs with
   | none => rw [q1,q2] at h; simp at h
   | some ks' =>
    rw [q1,q2] at h; simp at h; subst h
    have e2:=keysD_at h2 q2
    unfold keyD at q1
    split at q1
    ·cases q1; cases h1; simp [e2,kV]
    ·cases q1; cases h1; simp [e2,kV]
    ·cases q1
theorem tkeyOf_at {ks:List Key} (e:Same F H) (r:R K F H v t A) (h:tkeyOf t = some ks):∃ b,v = .ref b∧H b = some (.tup (ks.map kV)):=by
 unfold tkeyOf at h
 split at h
 ·have fz:=r.fz
  cases fz with
  | tup h1 h2 =>
   have:=keysD_at h2 h
   subst this
   exact ⟨_,rfl,e _ _ h1⟩
 ·cases h
def getK {κ α:Type} [DecidableEq κ] (kvs:List (κ × α)) (k:κ):Option α:=(kvs.find? fun kv => decide (kv.1 = k)).map (·.2)
theorem getK_none {κ α β:Type} [DecidableEq κ]:∀ {es:List (κ × α)} {kvs:List (κ × β)} {k:κ},es.map Prod.fst = kvs.map Prod.fst→(getK es k).isSome = (getK kvs k).isSome
 | [],[],_,_ => rfl
 | [],_ :: _,_,h => by simp at h
 | _ :: _,[],_,h => by simp at h
 | (a,v) :: es,(b,w) :: kvs,k,h => by
  simp only [List.map_cons,List.cons.injEq] at h
  obtain ⟨h1,h2⟩:=h
  subst h1
  by_cases c:a = k
  ·simp [getK,List.find?_cons,c]
  ·have:=getK_none (k:=k) h2
   simp only [getK,List.find?_cons,c,decide_false] at this ⊢
   exact this
theorem getK_some {κ:Type} [DecidableEq κ]:∀ {es:List (κ × V)} {kvs:List (κ × T)} {k:κ} {A:List Addr} {t:T},es.map Prod.fst = kvs.map Prod.fst→RA K F H (es.map Prod.snd) (kvs.map Prod.snd) A→getK kvs k = some t→∃ v B,getK es k = some v∧R K F H v t B∧∀ a,a∈B→a∈A
 | [],[],_,_,_,_,_,q => by simp [getK] at q
 | [],_ :: _,_,_,_,h,_,_ => by simp at h
 | _ :: _,[],_,_,_,h,_,_ => by simp at h
 | (a,v) :: es,(b,w) :: kvs,k,_,t,h,.cons r1 r2 n,q => by
  simp only [List.map_cons,List.cons.injEq] at h
  obtain ⟨h1,h2⟩:=h
  subst h1
  by_cases c:a = k
  ·simp [getK,List.find?_cons,c] at q
   subst q
   exact ⟨v,_,by simp [getK,List.find?_cons,c],r1,fun a z => List.mem_append_left _ z⟩
  ·have q':getK kvs k = some t:=by
    simp only [getK,List.find?_cons,c,decide_false] at q ⊢
    exact q
   obtain ⟨v',B,e,r,i⟩:=getK_some h2 r2 q'
   refine ⟨v',B,?_,r,fun a z => List.mem_append_right _ (i a z)⟩
   simp only [getK,List.find?_cons,c,decide_false] at e ⊢
   exact e
end
def kInK (neg:Bool) (a b:T):Option T:=match b with
 | .dK kvs => (keyOf a).map fun k => .d (.bool (if neg then !(getK kvs k).isSome else (getK kvs k).isSome))
 | .dT kvs => (tkeyOf a).map fun k => .d (.bool (if neg then !(getK kvs k).isSome else (getK kvs k).isSome))
 | _ => none
def rDIn (neg:Bool):R2:=fun x y H Q => ∃ (a:Addr) (o:Option V),y = .ref a∧DGet H a x o∧Q (.bl (if neg then !o.isSome else o.isSome)) H
section
variable {X:Cx}
theorem op_din (hu:X.A.units + 1 < cLine):OpR X (compareOp .In) (rDIn false):=fun pins s σ H x y v u Q I rx ry q => by
 obtain ⟨a,o,rfl,g,q⟩:=q
 obtain rfl:u = Value.ref a:=ry
 exact d_in hu I g rx fun s' I' => ⟨.bl o.isSome,H,I',rfl,q⟩
theorem op_dnotin (hu:X.A.units + 1 < cLine):OpR X (compareOp .NotIn) (rDIn true):=fun pins s σ H x y v u Q I rx ry q => by
 obtain ⟨a,o,rfl,g,q⟩:=q
 obtain rfl:u = Value.ref a:=ry
 exact d_notIn hu I g rx fun s' I' => ⟨.bl (!o.isSome),H,I',rfl,q⟩
end
theorem p_inK {K:Par} (neg:Bool):Pure2 K (rDIn neg) (kInK neg):=fun x y tx ty Ax Ay F H t e r1 r2 q Q m => by
 unfold kInK at q
 split at q
 ·rename_i kvs
  simp only [Option.map_eq_some_iff] at q
  obtain ⟨k,hk,rfl⟩:=q
  have:=keyOf_at r1 hk
  subst this
  cases r2 with
  | @dK a es _ A h1 h2 h3 h4 =>
   refine ⟨a,_,rfl,.inl ⟨es,k,.inl h1,rfl,rfl⟩,?_⟩
   have e1:(valV es k).isSome = (getK kvs k).isSome:=getK_none h2
   rw [e1]
   exact mk_scal m e (.bl _)
 ·rename_i kvs
  simp only [Option.map_eq_some_iff] at q
  obtain ⟨k,hk,rfl⟩:=q
  obtain ⟨b,rfl,hb⟩:=tkeyOf_at e r1 hk
  cases r2 with
  | @dT a es _ A h1 h2 h3 h4 =>
   refine ⟨a,_,rfl,.inr ⟨es,k,b,.inl h1,rfl,hb,rfl⟩,?_⟩
   have e1:(valV es k).isSome = (getK kvs k).isSome:=getK_none h2
   rw [e1]
   exact mk_scal m e (.bl _)
 ·cases q
def rDIx:R2:=fun x y H Q => ∃ (a:Addr) (v:V),x = .ref a∧((∃ kvs,H a = some (.dK kvs))∨∃ kvs,H a = some (.dT kvs))∧DGet H a y (some v)∧Q v H
theorem ix_dic {X:Cx} (hu:X.A.units + 1 < cLine):IxR X rDIx:=by
 (intro value slice pins s σ H x y v u Q I rx ry h hs)
 obtain ⟨a,w,rfl,hk,g,q⟩:=h
 obtain rfl:v = Value.ref a:=rx
 obtain ⟨hT,_⟩:=tyV_is I (x:=.ref a) (v:=.ref a) rfl (T:="dict") (.inr (.inr (.inl ⟨rfl,hk⟩)))
 exact PyProof.Rows.tail_any hT PySem.F.slot_dict_getitem.lookup (d_getItem hu I g ry fun w' s' I' r' => ⟨w,H,I',r',q⟩) hs
def kIxK (a b:T):Option T:=match a with
 | .dK kvs => (keyOf b).bind fun k => getK kvs k
 | .dT kvs => (tkeyOf b).bind fun k => getK kvs k
 | _ => none
theorem kIxK_at {K:Par}:IxK K rDIx kIxK:=by
 intro F H e x y tx ty t Ax Ay r1 r2 q
 unfold kIxK at q
 split at q
 ·rename_i kvs
  simp only [Option.bind_eq_some_iff] at q
  obtain ⟨k,hk,q⟩:=q
  have:=keyOf_at r2 hk
  subst this
  cases r1 with
  | @dK a es _ A h1 h2 h3 h4 =>
   obtain ⟨v,B,e1,r,i⟩:=getK_some h2 h3 q
   exact ⟨v,B,r,fun b z => List.mem_cons_of_mem _ (i b z),fun Q z => ⟨a,v,rfl,.inl ⟨_,h1⟩,.inl ⟨es,k,.inl h1,rfl,e1.symm⟩,z⟩⟩
 ·rename_i kvs
  simp only [Option.bind_eq_some_iff] at q
  obtain ⟨k,hk,q⟩:=q
  obtain ⟨b,rfl,hb⟩:=tkeyOf_at e r2 hk
  cases r1 with
  | @dT a es _ A h1 h2 h3 h4 =>
   obtain ⟨v,B,e1,r,i⟩:=getK_some h2 h3 q
   exact ⟨v,B,r,fun b z => List.mem_cons_of_mem _ (i b z),fun Q z => ⟨a,v,rfl,.inr ⟨_,h1⟩,.inr ⟨es,k,b,.inl h1,rfl,hb,e1.symm⟩,z⟩⟩
 ·cases q
def kIxA (a b:T):Option T:=(kIx a b).or (kIxK a b)
theorem kIxA_at {K:Par}:IxK K (fun x y H Q => rIx K.K x y H Q∨rDIx x y H Q) kIxA:=by
 intro F H e x y tx ty t Ax Ay r1 r2 q
 unfold kIxA at q
 cases c:kIx tx ty with
 | some u =>
  rw [c] at q
  simp at q
  subst q
  obtain ⟨v,B,r,i,z⟩:=kIx_at e r1 r2 c
  exact ⟨v,B,r,i,fun Q w => .inl (z Q w)⟩
 | none =>
  rw [c] at q
  simp at q
  obtain ⟨v,B,r,i,z⟩:=kIxK_at e r1 r2 q
  exact ⟨v,B,r,i,fun Q w => .inr (z Q w)⟩
section
variable {X:Cx} {cls:Str→Addr} {W:XW} {e a b c:Expr} {pos p p2:Pos} {oa ob oc o:Opd} {x:Str} {i:Nat}
theorem de_ixA (hu:X.A.units + 1 < cLine) (ha:DE X cls W a oa) (hb:DE X cls W b ob) (hs:isSlice b = false):DE X cls W (.Subscript a b pos) (oIx kIxA oa ob):=de_ixG (ix_seq.or (ix_dic hu)) kIxA_at ha hb hs
def gNewK:G T:=fun ρ => .ok (.dK []) ρ
theorem new_cell {K:Par} {F H:Hp} {σ:St} {ρ:Rho} {fp:Nat→List Addr} {q:Addr} {o:HO} (s:Sim K F H σ ρ fp) (n:H q = none):(∀ b,b∈[q]→∀ i,b∉fp i)∧∀ b,b∈[q]→F b = none :=
 ⟨fun b z i w => by
  have:=List.mem_singleton.mp z
  subst this
  exact live_ne (s.mt i) n w,fun b z => by
  have:=List.mem_singleton.mp z
  subst this
  exact s.sub.free n⟩
theorem de_newK:DE X cls W (.Dict [] [] pos) (.val gNewK) :=
 ⟨pe_dnewK.imp fun σ H Q q => by
  obtain ⟨ρ,F,fp,s,q⟩:=q
  intro d n
  obtain ⟨h1,h2⟩:=new_cell (o:=.dK []) s n
  exact q _ F _ fp [d] (s.laid n) ⟨.dK upd_same rfl .nil (by simp),h1,h2⟩ (Ext.laid n (by simpa using n)),rfl⟩
end
def kLenT:T→Option T
 | .dT kvs => some (.d (.int (kvs.length:Int)))
 | _ => none
theorem p_lenT {K:Par}:PureN K rLenT (kk1 kLenT):=fun vs ts F H t e p q Q m => by
 obtain ⟨a,rfl,q2⟩:=kk1_some q
 obtain ⟨v,rfl,A,r⟩:=pairedOne p
 clear q p
 unfold kLenT at q2
 split at q2
 ·rename_i kvs
  cases q2
  cases r with
  | @dT a es _ A h1 h2 h3 h4 =>
   have hl:es.length = kvs.length:=by simpa using congrArg List.length h2
   exact ⟨a,es,rfl,h1,by rw [hl]; exact mk_scal m e (.int _)⟩
 ·cases q2
def putT {κ:Type} [DecidableEq κ] (kvs:List (κ × T)) (k:κ) (v:T):List (κ × T):=if (kvs.any fun kv => decide (kv.1 = k)) = true then kvs.map (fun kv => if kv.1 = k then (kv.1,v) else kv) else kvs++[(k,v)]
theorem RA.mapPut {K:Par} {F H:Hp} {κ:Type} [DecidableEq κ] {k:κ} {v:V} {t:T} {B:List Addr} (r:R K F H v t B):∀ {es:List (κ × V)} {kvs:List (κ × T)} {A:List Addr},es.map Prod.fst = kvs.map Prod.fst→(kvs.map Prod.fst).Nodup→RA K F H (es.map Prod.snd) (kvs.map Prod.snd) A→(∀ a,a∈A→a∉B) →
  ∃ A1,RA K F H ((es.map fun kv => if kv.1 = k then (kv.1,v) else kv).map Prod.snd) ((kvs.map fun kv => if kv.1 = k then (kv.1,t) else kv).map Prod.snd) A1∧(∀ a,a∈A1→a∈A∨(a∈B∧k∈kvs.map Prod.fst))
 | [],[],_,_,_,.nil,_ => ⟨[],.nil,fun a h => by simp at h⟩
 | [],_ :: _,_,h,_,_,_ => by simp at h
 | _ :: _,[],_,h,_,_,_ => by simp at h
 | (a,u) :: es,(b,w) :: kvs,_,h,nd,.cons (A:=A1) (B:=A2) r1 r2 n,d => by
  simp only [List.map_cons,List.cons.injEq] at h
  obtain ⟨h1,h2⟩:=h
  subst h1
  simp only [List.map_cons,List.nodup_cons] at nd
  obtain ⟨A3,r3,i3⟩:=RA.mapPut (k:=k) r h2 nd.2 r2 fun c z => d c (List.mem_append_right _ z)
  by_cases c:a = k
  ·subst c
   have i4:∀ c,c∈A3→c∈A2:=fun c z => by
    rcases i3 c z with z | ⟨_,z⟩
    ·exact z
    ·exact absurd z nd.1
   refine ⟨B++A3,by simpa using RA.cons r r3 fun c z w => d c (List.mem_append_right _ (i4 c w)) z,fun c z => ?_⟩
   rcases List.mem_append.mp z with z | z
   ·exact .inr ⟨z,by simp⟩
   ·exact .inl (List.mem_append_right _ (i4 c z))
  ·have dd:∀ e,e∈A1→e∉A3:=fun e z w => ?_
   refine ⟨A1++A3,by simpa [c] using RA.cons r1 r3 dd,fun e z => ?_⟩
   rotate_left
   ·rcases i3 e w with w | ⟨w,_⟩
    ·exact n e z w
    ·exact d e (List.mem_append_left _ z) w
   ·rcases List.mem_append.mp z with z | z
    ·exact .inl (List.mem_append_left _ z)
    ·rcases i3 e z with z | ⟨z,y⟩
     ·exact .inl (List.mem_append_right _ z)
     ·exact .inr ⟨z,by simp [y]⟩
theorem RA.mapPut0 {K:Par} {F H:Hp} {κ:Type} [DecidableEq κ] {k:κ} {v:V} {x:D} (r:Fz K F v x):∀ {es:List (κ × V)} {kvs:List (κ × T)} {A:List Addr},es.map Prod.fst = kvs.map Prod.fst→RA K F H (es.map Prod.snd) (kvs.map Prod.snd) A →
  ∃ A1,RA K F H ((es.map fun kv => if kv.1 = k then (kv.1,v) else kv).map Prod.snd) ((kvs.map fun kv => if kv.1 = k then (kv.1,T.d x) else kv).map Prod.snd) A1∧∀ a,a∈A1→a∈A
 | [],[],_,_,.nil => ⟨[],.nil,fun a h => by simp at h⟩
 | [],_ :: _,_,h,_ => by simp at h
 | _ :: _,[],_,h,_ => by simp at h
 | (a,u) :: es,(b,w) :: kvs,_,h,.cons (A:=A1) (B:=A2) r1 r2 n => by
  simp only [List.map_cons,List.cons.injEq] at h
  obtain ⟨h1,h2⟩:=h
  subst h1
  obtain ⟨A3,r3,i3⟩:=RA.mapPut0 (k:=k) r h2 r2
  by_cases c:a = k
  ·subst c
   exact ⟨[]++A3,by simpa using RA.cons (.d r) r3 (by simp),fun c z => List.mem_append_right _ (i3 c (by simpa using z))⟩
  ·refine ⟨A1++A3,by simpa [c] using RA.cons r1 r3 fun e z w => n e z (i3 e w),fun e z => ?_⟩
   rcases List.mem_append.mp z with z | z
   ·exact List.mem_append_left _ z
   ·exact List.mem_append_right _ (i3 e z)
def putC {κ:Type} [DecidableEq κ] (kvs:List (κ × T)) (k:κ) (t:T):Bool:=isD (some t)||!(kvs.any fun kv => decide (kv.1 = k))||decide (kvs.map Prod.fst).Nodup
theorem putT_at {K:Par} {F H:Hp} {κ:Type} [DecidableEq κ] {k:κ} {v:V} {t:T} {A B:List Addr} {es:List (κ × V)} {kvs:List (κ × T)} (h:es.map Prod.fst = kvs.map Prod.fst) (pc:putC kvs k t = true) (ra:RA K F H (es.map Prod.snd) (kvs.map Prod.snd) A) (r:R K F H v t B) (d:∀ a,a∈A→a∉B) :
  ∃ A1,(putK es k v).map Prod.fst = (putT kvs k t).map Prod.fst∧RA K F H ((putK es k v).map Prod.snd) ((putT kvs k t).map Prod.snd) A1∧∀ a,a∈A1→a∈A∨a∈B:=by
 have ha:(es.any fun kv => decide (kv.1 = k)) = kvs.any fun kv => decide (kv.1 = k):=by
  have:∀ {α β:Type} (l:List (κ × α)) (m:List (κ × β)),l.map Prod.fst = m.map Prod.fst→(l.any fun kv => decide (kv.1 = k)) = m.any fun kv => decide (kv.1 = k):=fun l m h => by
   have e1:(l.any fun kv => decide (kv.1 = k)) = (l.map Prod.fst).any fun z => decide (z = k):=by simp [List.any_map,Function.comp_def]
   have e2:(m.any fun kv => decide (kv.1 = k)) = (m.map Prod.fst).any fun z => decide (z = k):=by simp [List.any_map,Function.comp_def]
   rw [e1,e2,h]
  exact this _ _ h
 unfold putK putT
 rw [ha]
 split
 ·rename_i hany
  have key:∃ A1,RA K F H ((es.map fun kv => if kv.1 = k then (kv.1,v) else kv).map Prod.snd) ((kvs.map fun kv => if kv.1 = k then (kv.1,t) else kv).map Prod.snd) A1∧∀ a,a∈A1→a∈A∨a∈B:=by
   unfold putC at pc
   simp only [hany,Bool.not_true,Bool.or_false,Bool.or_eq_true,decide_eq_true_eq] at pc
   rcases pc with pc | nd
   ·cases t with
    | d x =>
     obtain ⟨A1,r1,i1⟩:=RA.mapPut0 (k:=k) r.fz h ra
     exact ⟨A1,r1,fun a z => .inl (i1 a z)⟩
    | _ => simp [isD] at pc
   ·obtain ⟨A1,r1,i1⟩:=RA.mapPut (k:=k) r h nd ra d
    exact ⟨A1,r1,fun a z => (i1 a z).imp id And.left⟩
  obtain ⟨A1,r1,i1⟩:=key
  refine ⟨A1,?_,r1,i1⟩
  have:∀ {α:Type} (l:List (κ × α)) (u:α),(l.map fun kv => if kv.1 = k then (kv.1,u) else kv).map Prod.fst = l.map Prod.fst:=fun l u => by
   rw [List.map_map]
   apply List.map_congr_left
   intro kv _
   simp only [Function.comp]
   split <;> rfl
  rw [this,this,h]
 ·refine ⟨A++B,by simp [h],?_,fun a z => List.mem_append.mp z⟩
  simpa using RA.append ra r d
end Hu
namespace Hu
open PySem L2
def putA (t:T):Option T→List T→Option T
 | some (.lst xs),[.d (.int k)] => (ixN xs.length k).map fun j => .lst (xs.set j t)
 | some (.dK kvs),[kt] => (keyOf kt).bind fun k => if (decide (kvs.length < sizeLine)&&putC kvs k t) = true then some (.dK (putT kvs k t)) else none
 | some (.dT kvs),[kt] => (tkeyOf kt).bind fun k => if (decide (kvs.length < sizeLine)&&putC kvs k t) = true then some (.dT (putT kvs k t)) else none
 | _,_ => none
def sPutA (i:Nat) (ob:Opd) (g:G T):SG:=fun ρ => (g ρ).s fun t ρ1 => match getS ρ1 i with
 | none => .bad
 | some _ => (gOs [ob] (fun ts ρ2 => match putA t (getS ρ2 i) ts with
  | some u => .ok () (ρ2.set i (some u))
  | none => .bad) ρ1).s fun _ ρ3 => .nx ρ3
def rSetA:TSet:=fun o i v H Q => rSetL o i v H Q∨rSetD o i v H Q
theorem set_any {X:Cx} (hu:X.A.units + 1 < cLine):PSet X rSetA:=fun pins s σ H o i v ov iv u Q I ro ri rv q => by
 rcases q with q | q
 ·exact set_list pins s σ H o i v ov iv u Q I ro ri rv q
 ·exact set_dict hu pins s σ H o i v ov iv u Q I ro ri rv q
theorem putA_at {K:Par} {F H F0 H0:Hp} {σ:St} {ρ:Rho} {fp fp0:Nat→List Addr} {B:List Addr} (s:Sim K F H σ ρ fp) (x:Ext F0 H0 fp0 F H fp B) {i:Nat} {v w:V} {t t1 tw u:T} {Aw:List Addr} (hv:σ[i]? = some (some v)) (ht:ρ[i]? = some (some t1)) {vv:V} (m:Tmp K F H fp vv t B) (rw':R K F H w tw Aw) (q:putA t (some t1) [tw] = some u) :
  ∃ H1 fp1,rSetA v w vv H (fun H' => H' = H1)∧Sim K F H1 σ (ρ.set i (some u)) fp1∧Ext F0 H0 fp0 F H1 fp1 []:=by
 obtain ⟨v1,e1,r1⟩:=s.sl i t1 ht
 rw [hv] at e1; cases e1
 unfold putA at q
 split at q
 ·rename_i xs k h1 h2
  simp only [Option.some.injEq] at h1
  subst h1
  simp only [List.cons.injEq,and_true] at h2
  subst h2
  simp only [Option.map_eq_some_iff] at q
  obtain ⟨j,hj,rfl⟩:=q
  generalize hA:fp i = A0 at r1
  cases r1 with
  | @lst a vs0 _ A' h1 h2 h3 =>
   obtain ⟨A1,r5,i5⟩:=RA.put h2 (ixN_seq hj).2.1 m.r fun b z w => m.dj b w i (hA ▸ List.mem_cons_of_mem _ z)
   have hn:a∉A1:=fun z => by
    rcases i5 _ z with z | z
    ·exact h3 z
    ·exact m.dj _ z i (hA ▸ List.mem_cons_self)
   obtain ⟨fp3,s3,_,x3⟩:=mut_gen (u:=.lst xs) (u2:=.lst (xs.set j t)) (ho:=.lst (vs0.set j vv)) (put:=id) (a:=a) (A':=A') (rv:=.non) (rt:=.d .none) (C:=[]) s hv ht (by rw [hA]; exact Loc.refl (.lst h1 h2 h3)) x m.r.live m.ff m.dj h3 rfl
    (fun tu st => .lst upd_same (r5.frame (Same.refl F) tu fun b hb => st b fun e => hn (e ▸ hb)) hn) (.d .non) i5 (by simp) (by simp)
   ·exact ⟨_,fp3,.inl ⟨a,vs0,k,j,rfl,rw'.int,h1,by rw [h2.length]; exact hj,rfl⟩,s3,x3⟩
 ·rename_i kvs kt h1 h2
  simp only [Option.some.injEq] at h1
  subst h1
  simp only [List.cons.injEq,and_true] at h2
  subst h2
  simp only [Option.bind_eq_some_iff] at q
  obtain ⟨k,hk,q⟩:=q
  split at q
  ·rename_i hc
   cases q
   simp only [Bool.and_eq_true,decide_eq_true_eq] at hc
   have:=keyOf_at rw' hk
   subst this
   generalize hA:fp i = A0 at r1
   cases r1 with
   | @dK a es _ A' h1 h0 h2 h3 =>
    obtain ⟨A1,e5,r5,i5⟩:=putT_at h0 hc.2 h2 m.r fun b z w => m.dj b w i (hA ▸ List.mem_cons_of_mem _ z)
    have hl:es.length = kvs.length:=by simpa using congrArg List.length h0
    have hn:a∉A1:=fun z => by
     rcases i5 _ z with z | z
     ·exact h3 z
     ·exact m.dj _ z i (hA ▸ List.mem_cons_self)
    obtain ⟨fp3,s3,_,x3⟩:=mut_gen (u:=.dK kvs) (u2:=.dK (putT kvs k t)) (ho:=.dK (putK es k vv)) (put:=id) (a:=a) (A':=A') (rv:=.non) (rt:=.d .none) (C:=[]) s hv ht (by rw [hA]; exact Loc.refl (.dK h1 h0 h2 h3)) x m.r.live m.ff m.dj h3 rfl
     (fun tu st => .dK upd_same e5 (r5.frame (Same.refl F) tu fun b hb => st b fun e => hn (e ▸ hb)) hn) (.d .non) i5 (by simp) (by simp)
    ·exact ⟨_,fp3,.inr ⟨a,_,rfl,.inl ⟨es,k,h1,rfl,by omega,rfl⟩,rfl⟩,s3,x3⟩
  ·cases q
 ·rename_i kvs kt h1 h2
  simp only [Option.some.injEq] at h1
  subst h1
  simp only [List.cons.injEq,and_true] at h2
  subst h2
  simp only [Option.bind_eq_some_iff] at q
  obtain ⟨k,hk,q⟩:=q
  split at q
  ·rename_i hc
   cases q
   simp only [Bool.and_eq_true,decide_eq_true_eq] at hc
   obtain ⟨bk,rfl,hbk⟩:=tkeyOf_at s.sub rw' hk
   generalize hA:fp i = A0 at r1
   cases r1 with
   | @dT a es _ A' h1 h0 h2 h3 =>
    obtain ⟨A1,e5,r5,i5⟩:=putT_at h0 hc.2 h2 m.r fun b z w => m.dj b w i (hA ▸ List.mem_cons_of_mem _ z)
    have hl:es.length = kvs.length:=by simpa using congrArg List.length h0
    have hn:a∉A1:=fun z => by
     rcases i5 _ z with z | z
     ·exact h3 z
     ·exact m.dj _ z i (hA ▸ List.mem_cons_self)
    obtain ⟨fp3,s3,_,x3⟩:=mut_gen (u:=.dT kvs) (u2:=.dT (putT kvs k t)) (ho:=.dT (putK es k vv)) (put:=id) (a:=a) (A':=A') (rv:=.non) (rt:=.d .none) (C:=[]) s hv ht (by rw [hA]; exact Loc.refl (.dT h1 h0 h2 h3)) x m.r.live m.ff m.dj h3 rfl
     (fun tu st => .dT upd_same e5 (r5.frame (Same.refl F) tu fun b hb => st b fun e => hn (e ▸ hb)) hn) (.d .non) i5 (by simp) (by simp)
    ·exact ⟨_,fp3,.inr ⟨a,_,rfl,.inr ⟨es,k,bk,h1,rfl,hbk,by omega,rfl⟩,rfl⟩,s3,x3⟩
  ·cases q
 ·cases q
section
variable {X:Cx} {cls:Str→Addr} {W:XW} {e a b c:Expr} {pos p p2 pt:Pos} {oa ob oc o:Opd} {x y:Str} {i j:Nat}
theorem ds_putA (hu:X.A.units + 1 < cLine) (hN:X.N[i]? = some x) (hv:Vis X.env.scope x) (hd:(x == ("__debug__":Str)) = false) (hcd:(x == ("__classdict__":Str)) = false) (he:DE X cls W e o) (hb:DE X cls W b ob) (hst:isStarT (.Subscript (.Name x p) b p2) = false)
  (ha:∀ v,assign (.Subscript (.Name x p) b p2) X.env v = (do let ov ← holding [v] (eval (.Name x p) X.env); let iv ← holding [v,ov] (eval b X.env); standAt p2; holding [v,ov,iv] (setItem ov iv v); release [v,ov,iv] []))
  (hs:swapsWithSole [.Subscript (.Name x p) b p2] e pos.line X.env = pure false) (hw:swappedStores [.Subscript (.Name x p) b p2] e X.env = pure none) :
  DS X cls W (.Assign [.Subscript (.Name x p) b p2] e pos) [] (sPutA i ob o.vg) :=
 (ps_asg he.own (pg_sub (pe_var hN hv hd hcd) hb.1 (set_any hu) ha) hs hw (assignEach_cons hst)).imp fun D σ H q => by
  obtain ⟨ρ,F,fp,s,q⟩:=q
  refine ⟨ρ,F,fp,s,q.run.imp (Ext.refl F H fp) fun t ρ1 _ q v F1 H1 fp1 A s1 m x1 => ?_⟩
  cases c0:getS ρ1 i with
  | none => rw [c0] at q; exact q.elim
  | some t0 =>
  rw [c0] at q
  obtain ⟨u0,hu0,_⟩:=s1.sl i t0 (getS_some c0)
  refine ⟨u0,hu0,tC_at ?_⟩
  refine gOs_run (fine1 hb.2) x1 s1 q.run fun vs xs ts ρ2 F2 H2 fp2 B s2 x2 ar fi pr q => ?_
  clear fi
  obtain ⟨m2,_⟩:=m.on s1 x2 s2
  cases c2:putA t (getS ρ2 i) ts with
  | none => rw [c2] at q; exact q.elim
  | some u =>
   rw [c2] at q
   have hts:∃ tw,ts = [tw]:=by
    unfold putA at c2
    split at c2
    ·exact ⟨_,rfl⟩
    ·exact ⟨_,rfl⟩
    ·exact ⟨_,rfl⟩
    ·cases c2
   obtain ⟨tw,rfl⟩:=hts
   obtain ⟨w,rfl,Aw,rw'⟩:=pairedOne pr
   cases c3:getS ρ2 i with
   | none => rw [c3] at c2; simp [putA] at c2
   | some t1 =>
    rw [c3] at c2
    obtain ⟨H3,fp3,hr,s3,x3⟩:=putA_at s2 ((x1.trans x2).more fun b z => .inr (x1.own b (.inl z))) hu0 (getS_some c3) m2 rw' c2
    refine ⟨w,rfl,?_⟩
    have fin:=q σ F2 H3 fp3 s3 x3 (Ag.refl _ _)
    rcases hr with hr | hr
    ·obtain ⟨p',xs',k',j',e1,e2,e3,e4,e5⟩:=hr
     exact .inl ⟨p',xs',k',j',e1,e2,e3,e4,by rw [e5]; exact fin⟩
    ·obtain ⟨a',H',e1,e2,e3⟩:=hr
     exact .inr ⟨a',H',e1,e2,by rw [e3]; exact fin⟩
end
end Hu
namespace Hu
open PySem L2
section
variable {X:Cx} {cls:Str→Addr} {W:XW} {a:Expr} {o:Opd} {p p2 q pos:Pos}
end
end Hu
namespace Hu
open PySem L2
theorem PureN.or1 {K:Par} {r r':List V→Hp→VK→Prop} {k k':T→Option T} (h:PureN K r (kk1 k)) (h':PureN K r' (kk1 k')):PureN K (fun vs H Q => r vs H Q∨r' vs H Q) (kk1 fun t => (k t).or (k' t)):=fun vs ts F H t e p q Q m => by
 obtain ⟨a,rfl,q2⟩:=kk1_some q
 clear q
 cases c:k a with
 | some u => rw [c] at q2; simp at q2; subst q2; exact .inl (h vs [a] F H u e p (by simp [kk1,c]) Q m)
 | none => rw [c] at q2; simp at q2; exact .inr (h' vs [a] F H t e p (by simp [kk1,q2]) Q m)
section
variable {X:Cx} {cls:Str→Addr} {W:XW} {e a b c tg:Expr} {es:List Expr} {os:List Opd} {pos p p2 p3:Pos} {oa ob oc o:Opd} {x y:Str} {k:Nat}
theorem n_nm (i:Nat) (hN:X.N[i]? = some x:=by rfl) (hv:Vis X.env.scope x:=by first | exact .inl rfl | exact .inr (.inl rfl) | exact .inr (.inr rfl)) (hd:(x == ("__debug__":Str)) = false:=by decide) (hcd:(x == ("__classdict__":Str)) = false:=by decide):DE X cls W (.Name x pos) (.nm i):=de_name hN hv hd hcd
theorem n_add (ha:DE X cls W a oa) (hb:DE X cls W b ob):DE X cls W (.BinOp a .Add b pos) (.val (gP2 kAdd oa ob)):=de_bin (op_add.or (op_add_str.or (op_cat.or op_catA))) (p_addI.or (p_addS.or (p_addL.or p_addT))) ha hb
theorem n_sub (ha:DE X cls W a oa) (hb:DE X cls W b ob):DE X cls W (.BinOp a .Sub b pos) (.val (gP2 kSubI oa ob)):=de_bin op_sub p_subI ha hb
theorem n_mul (ha:DE X cls W a oa) (hb:DE X cls W b ob):DE X cls W (.BinOp a .Mult b pos) (.val (gP2 kMul oa ob)):=de_bin (op_mul.or op_rep) (p_mulI.or p_mulL) ha hb
theorem n_div (ha:DE X cls W a oa) (hb:DE X cls W b ob):DE X cls W (.BinOp a .FloorDiv b pos) (.val (gP2 kDivI oa ob)):=de_bin op_fdiv p_divI ha hb
theorem n_mod (ha:DE X cls W a oa) (hb:DE X cls W b ob):DE X cls W (.BinOp a .Mod b pos) (.val (gP2 kModI oa ob)):=de_bin op_mod p_modI ha hb
theorem n_pow (ha:DE X cls W a oa) (hb:DE X cls W b ob):DE X cls W (.BinOp a .Pow b pos) (.val (gP2 kPowI oa ob)):=de_bin op_pow p_powI ha hb
theorem n_neg (ha:DE X cls W a oa):DE X cls W (.UnaryOp .USub a pos) (.val (gP1 kNeg oa)):=de_un un_neg p_neg ha
theorem hu64 (hr:Room k X.A):X.A.units + 64 < cLine:=hr.units
theorem hu65 (hr:Room k X.A):X.A.units + 65 < cLine:=by have:=hr.un; omega
def rInA (K:PySem.W.Frag) (neg:Bool):R2:=fun x y H Q => rIn K neg x y H Q∨((if neg then rNotInD K x y H Q else rInD K x y H Q)∨rDIn neg x y H Q)
def kIn (neg:Bool):T→T→Option T:=fun a b => (kInF neg a b).or ((kInD neg a b).or (kInK neg a b))
theorem op_inA (hr:Room k X.A):OpR X (compareOp .In) (rInA X.K false):=op_in_seq.or ((op_inD (hu65 hr)).or (op_din (hu_of hr)))
theorem op_notInA (hr:Room k X.A):OpR X (compareOp .NotIn) (rInA X.K true):=op_notIn_seq.or ((op_notInD (hu65 hr)).or (op_dnotin (hu_of hr)))
theorem p_inA {K:Par} (neg:Bool):Pure2 K (rInA K.K neg) (kIn neg):=(p_inF neg).or (Pure2.or (by cases neg; exact p_inD; exact p_notInD) (p_inK neg))
theorem n_lt (ha:DE X cls W a oa) (hb:DE X cls W b ob):DT X cls W (.Compare a [.Lt] [b] pos) (gTest (gP2 kLtI oa ob)):=dt_cmp op_lt (nomark b) p_ltI ha hb
theorem n_gt (ha:DE X cls W a oa) (hb:DE X cls W b ob):DT X cls W (.Compare a [.Gt] [b] pos) (gTest (gP2 kGtI oa ob)):=dt_cmp op_gt (nomark b) p_gtI ha hb
theorem n_eq (hr:Room k X.A) (ha:DE X cls W a oa) (hb:DE X cls W b ob):DT X cls W (.Compare a [.Eq] [b] pos) (gTest (gP2 (kEqv false) oa ob)):=dt_cmp (op_eqD (hu64 hr)) (nomark b) p_eq ha hb
theorem n_ne (hr:Room k X.A) (ha:DE X cls W a oa) (hb:DE X cls W b ob):DT X cls W (.Compare a [.NotEq] [b] pos) (gTest (gP2 (kEqv true) oa ob)):=dt_cmp (op_neD (hu64 hr)) (nomark b) p_ne ha hb
theorem n_in (hr:Room k X.A) (ha:DE X cls W a oa) (hb:DE X cls W b ob) (hm:behindInMarks .In b = false:=by with_unfolding_all rfl):DT X cls W (.Compare a [.In] [b] pos) (gTest (gP2 (kIn false) oa ob)):=dt_cmp (op_inA hr) hm (p_inA false) ha hb
theorem n_notIn (hr:Room k X.A) (ha:DE X cls W a oa) (hb:DE X cls W b ob) (hm:behindInMarks .NotIn b = false:=by with_unfolding_all rfl):DT X cls W (.Compare a [.NotIn] [b] pos) (gTest (gP2 (kIn true) oa ob)):=dt_cmp (op_notInA hr) hm (p_inA true) ha hb
theorem n_is (ha:DE X cls W a oa) (hb:DE X cls W b ob):DT X cls W (.Compare a [.Is] [b] pos) (gTest (gP2 (kIsN false) oa ob)):=dt_cmp op_isN (nomark b) p_isN ha hb
theorem n_isNot (ha:DE X cls W a oa) (hb:DE X cls W b ob):DT X cls W (.Compare a [.IsNot] [b] pos) (gTest (gP2 (kIsN true) oa ob)):=dt_cmp op_notN (nomark b) p_notN ha hb
theorem v_ge (ha:DE X cls W a oa) (hb:DE X cls W b ob):DE X cls W (.Compare a [.GtE] [b] pos) (.val (gP2 kGeI oa ob)):=de_cmp op_ge (nomark b) p_geI ha hb
theorem v_eq (hr:Room k X.A) (ha:DE X cls W a oa) (hb:DE X cls W b ob):DE X cls W (.Compare a [.Eq] [b] pos) (.val (gP2 (kEqv false) oa ob)):=de_cmp (op_eqD (hu64 hr)) (nomark b) p_eq ha hb
theorem n_tru (ha:DE X cls W a oa) (he:plainTest a = true:=by rfl):DT X cls W a (gTru oa):=dt_tru he ha
def kLenA:T→Option T:=fun t => (kLen t).or (kLenT t)
theorem n_len (hm:X.mg "len" = none) (ha:DE X cls W a oa) (hs:isStar a = false:=by rfl) (hg:Gl X "len":=by rfl):DE X cls W (.Call (.Name "len" p) [a] [] pos) (.val (gCall (kk1 kLenA) [oa])):=de_call (call_len_seq.or (call_len_str.or call_lenD) |>.or call_len_dT) (PureN.or1 p_len p_lenT) hg hm (by decide +kernel) (.cons hs ha .nil) (by decide) (by decide)
theorem n_abs (hm:X.mg "abs" = none) (ha:DE X cls W a oa) (hs:isStar a = false:=by rfl) (hg:Gl X "abs":=by rfl):DE X cls W (.Call (.Name "abs" p) [a] [] pos) (.val (gCall (kk1 kAbs) [oa])):=de_call call_abs p_abs hg hm (by decide +kernel) (.cons hs ha .nil) (by decide) (by decide)
theorem n_max2 (hc:X.calm = true) (hm:X.mg "max" = none) (ha:DE X cls W a oa) (hb:DE X cls W b ob) (hs:isStar a = false:=by rfl) (hs2:isStar b = false:=by rfl) (hg:Gl X "max":=by rfl):DE X cls W (.Call (.Name "max" p) [a,b] [] pos) (.val (gCall (kk2 kMax2) [oa,ob])):=de_call (call_max2 hc) p_max2 hg hm (by decide +kernel) (.cons hs ha (.cons hs2 hb .nil)) (by decide) (by decide)
theorem n_min2 (hc:X.calm = true) (hm:X.mg "min" = none) (ha:DE X cls W a oa) (hb:DE X cls W b ob) (hs:isStar a = false:=by rfl) (hs2:isStar b = false:=by rfl) (hg:Gl X "min":=by rfl):DE X cls W (.Call (.Name "min" p) [a,b] [] pos) (.val (gCall (kk2 kMin2) [oa,ob])):=de_call (call_min2 hc) p_min2 hg hm (by decide +kernel) (.cons hs ha (.cons hs2 hb .nil)) (by decide) (by decide)
theorem n_int (hm:X.mg "int" = none) (ha:DE X cls W a oa) (hs:isStar a = false:=by rfl) (hg:Gl X "int":=by rfl):DE X cls W (.Call (.Name "int" p) [a] [] pos) (.val (gCall (kk1 kInt1) [oa])):=de_callT call_int1 p_int1 hg hm (by decide +kernel) (.cons hs ha .nil) (by decide) (by decide)
theorem n_list (hm:X.mg "list" = none) (ha:DE X cls W a oa) (hs:isStar a = false:=by rfl) (hg:Gl X "list":=by rfl):DE X cls W (.Call (.Name "list" p) [a] [] pos) (.val (gCall (kk1 kListOf) [oa])):=de_callT call_list_of p_listOf hg hm (by decide +kernel) (.cons hs ha .nil) (by decide) (by decide)
theorem n_tuple (hm:X.mg "tuple" = none) (ha:DE X cls W a oa) (hs:isStar a = false:=by rfl) (hg:Gl X "tuple":=by rfl):DE X cls W (.Call (.Name "tuple" p) [a] [] pos) (.val (gCall (kk1 kTupOf) [oa])):=de_callT call_tuple_of p_tupOf hg hm (by decide +kernel) (.cons hs ha .nil) (by decide) (by decide)
theorem n_sum (hc:X.calm = true) (hm:X.mg "sum" = none) (ha:DE X cls W a oa) (hs:isStar a = false:=by rfl) (hg:Gl X "sum":=by rfl):DE X cls W (.Call (.Name "sum" p) [a] [] pos) (.val (gCall (kk1 kSum) [oa])):=de_call (cr_sumA hc) p_sum hg hm (by decide +kernel) (.cons hs ha .nil) (by decide) (by decide)
theorem n_all (hc:X.calm = true) (hm:X.mg "all" = none) (ha:DE X cls W a oa) (hs:isStar a = false:=by rfl) (hg:Gl X "all":=by rfl):DE X cls W (.Call (.Name "all" p) [a] [] pos) (.val (gCall (kk1 kAll) [oa])):=de_call (cr_all hc) p_all hg hm (by decide +kernel) (.cons hs ha .nil) (by decide) (by decide)
theorem n_any (hc:X.calm = true) (hm:X.mg "any" = none) (ha:DE X cls W a oa) (hs:isStar a = false:=by rfl) (hg:Gl X "any":=by rfl):DE X cls W (.Call (.Name "any" p) [a] [] pos) (.val (gCall (kk1 kAny) [oa])):=de_call (cr_any hc) p_any hg hm (by decide +kernel) (.cons hs ha .nil) (by decide) (by decide)
end
end Hu
namespace Hu
open PySem L2
section
variable {X:Cx} {cls:Str→Addr} {W:XW} {e a b c tg iter elt:Expr} {es ifs:List Expr} {os:List Opd} {pos p p2 p3 py spos:Pos} {oa ob oc o:Opd} {x y:Str} {k j n:Nat} {st st':List Nat} {g:SG} {body:List Stmt} {scope:Scope} {it:G It0} {f:T→Rho→Option Rho} {test:G Bool}
theorem ds_setLc {i:Nat} {own:List (Str × Nat)} (hc:X.calm = true) (hN:X.N.Nodup) (hy:X.N[i]? = some y) (hyl:X.env.scope.names.lookup y = some .local) (hsw:swapsWith (.ListComp elt [⟨tg,iter,ifs,0⟩] scope pos) (some (.Name y py)) spos.line X.env = pure true)
  (hi:DI X cls W tg iter it) (ok:BlkOk X.N X.env.scope scope own) (hst:∀ j,j∈st→j∈own.map (·.2))
  (hg:∀ (s:Shared) (H:Hp) (C:Addr) (cl:List (Str × Addr)) (fp:List Addr),DG (X.blk s H scope (compEnvC scope cl C X.env) fp) cls tg f st) (ht:∀ (s:Shared) (H:Hp) (C:Addr) (cl:List (Str × Addr)) (fp:List Addr),DTs (X.blk s H scope (compEnvC scope cl C X.env) fp) cls ifs test)
  (he:∀ (s:Shared) (H:Hp) (C:Addr) (cl:List (Str × Addr)) (fp:List Addr),DE (X.blk s H scope (compEnvC scope cl C X.env) fp) cls Wno elt o) (hs:∀ x,foldedSetIterable iter X.env x = pure x) :
  DS X cls W (.Assign [.Name y py] (.ListComp elt [⟨tg,iter,ifs,0⟩] scope pos) spos) [i] (sSet i (gLc (own.map (·.2)) it f test o.vg)) :=
 (ps_setLc hc hN hy hyl hsw hi ok hg ht (fun s H C cl fp => (he s H C cl fp).own) hs).imp fun D σ H q => by
  have z:tO (Px X cls) W (.val (gLc (own.map (·.2)) it f test o.vg)) σ H fun v H1 => tN (Px X cls) (setS i) [i] v σ H1 D.nx:=asg_ok (f:=setS i) (show tS (Px X cls) W [i] (sAsg (setS i) (gLc (own.map (·.2)) it f test o.vg)) D σ H from q)
  have z2:tG (Px X cls) W (gLc (own.map (·.2)) it f test o.vg) σ H fun v H1 => gName i v σ H1 D.nx:=by
   refine tO_mono z fun v H1 z => ?_
   obtain ⟨ρ,F,fp,t,A,ρ',s,m,h,k⟩:=z
   unfold setS at h
   split at h
   ·rename_i l
    cases h
    refine k _ _ (s.set m l) (fun b j h => ?_) Ag.set
    split at h
    ·exact .inr h
    ·exact .inl ⟨j,h⟩
   ·cases h
  exact tLc_ok hst z2
theorem s_set (i:Nat) (hN:X.N.Nodup) (h:DE X cls W e o) (hi:X.N[i]? = some x:=by rfl) (hx:L2.Loc X.env.scope x:=by first | exact .inl rfl | exact .inr rfl) (hf:X.fn x = true∨X.env.scope.names.lookup x = some .local:=by first | exact .inl rfl | exact .inr rfl) (hs:swapsWith e (some (.Name x p2)) pos.line X.env = pure false:=by rfl) :
  DS X cls W (.Assign [.Name x p2] e pos) [i] (sSet i o.vg):=ds_set hN hi hx hf h hs
theorem t_nm (i:Nat) (hN:X.N.Nodup) (hi:X.N[i]? = some x:=by rfl) (hx:L2.Loc X.env.scope x:=by first | exact .inl rfl | exact .inr rfl) (hf:X.fn x = true∨X.env.scope.names.lookup x = some .local:=by first | exact .inl rfl | exact .inr rfl):DG X cls (.Name x pos) (setS i) [i]:=dg_name hN hi hx hf
theorem t_tup (hc:X.calm = true) {n:Nat} {fs:List (T→Rho→Option Rho)} (h:DGs X cls es fs st):DG X cls (.Tuple es n pos) (setTup fs) st:=dg_tup hc h
theorem s_drop (h:DE X cls W e o) (hs:swapsWith e none pos.line X.env = pure false:=by rfl):DS X cls W (.Expr e pos) [] (sDrop o.vg):=ds_drop h hs
theorem s_asg (h:DE X cls W e o) (ht:DG X cls tg f st) (hst:isStarT tg = false:=by rfl) (hs:swapsWithSole [tg] e pos.line X.env = pure false:=by rfl) (hw:swappedStores [tg] e X.env = pure none:=by rfl):DS X cls W (.Assign [tg] e pos) st (sAsg f o.vg):=ds_asg h ht hst hs hw
theorem s_for (hi:DI X cls W tg iter it) (hg:DG X cls tg f st) (hb:DSs X cls W body st' g) (hp:PassesOwn (model X.prog X.w) X.A X.env X.xe:=by exact PassesOwn.never) (hc:X.calm = true:=by rfl) (hs:∀ x,foldedSetIterable iter X.env x = pure x:=by intro _; rfl) :
  DS X cls W (.For tg iter body [] pos) (st++st') (sFor (st++st') it f g):=ds_for hp hc hi hg hb hs
theorem s_while {t:G Bool} (hc:DT X cls W c t) (hb:DSs X cls W body st g) (hp:PassesOwn (model X.prog X.w) X.A X.env X.xe:=by exact PassesOwn.never):DS X cls W (.While c body [] pos) st (sWhile t g):=ds_while hp hc hb
theorem s_put (i:Nat) (hr:Room k X.A) (he:DE X cls W e o) (hb:DE X cls W b ob) (hN:X.N[i]? = some x:=by rfl) (hv:Vis X.env.scope x:=by first | exact .inl rfl | exact .inr (.inl rfl) | exact .inr (.inr rfl)) (hd:(x == ("__debug__":Str)) = false:=by decide) (hcd:(x == ("__classdict__":Str)) = false:=by decide) (hst:isStarT (.Subscript (.Name x p) b p2) = false:=by rfl)
  (ha:∀ v,assign (.Subscript (.Name x p) b p2) X.env v = (do let ov ← holding [v] (eval (.Name x p) X.env); let iv ← holding [v,ov] (eval b X.env); standAt p2; holding [v,ov,iv] (setItem ov iv v); release [v,ov,iv] []):=by intro _; rfl)
  (hs:swapsWithSole [.Subscript (.Name x p) b p2] e pos.line X.env = pure false:=by rfl) (hw:swappedStores [.Subscript (.Name x p) b p2] e X.env = pure none:=by rfl):DS X cls W (.Assign [.Subscript (.Name x p) b p2] e pos) [] (sPutA i ob o.vg):=ds_putA (hu_of hr) hN hv hd hcd he hb hst ha hs hw
theorem s_par (i j:Nat) {k1 k2:Nat} {px py pt pt2:Pos} (hN:X.N.Nodup) (ha:DAs X cls W [a,b] [oa,ob]) (hc:X.calm = true:=by rfl) (hi:X.N[i]? = some x:=by rfl) (hj:X.N[j]? = some y:=by rfl) (hij:i≠j:=by decide) (hx:X.env.scope.names.lookup x = some .local:=by rfl) (hy:X.env.scope.names.lookup y = some .local:=by rfl)
  (hw:swappedStores [.Tuple [.Name x px,.Name y py] k1 pt] (.Tuple [a,b] k2 pt2) X.env = pure (some [x,y]):=by rfl) (hs:swapsWithSole [.Tuple [.Name x px,.Name y py] k1 pt] (.Tuple [a,b] k2 pt2) pos.line X.env = pure false:=by rfl) :
  DS X cls W (.Assign [.Tuple [.Name x px,.Name y py] k1 pt] (.Tuple [a,b] k2 pt2) pos) [i,j] (sPar [i,j] [oa.vg,ob.vg]):=ds_par hc hN hi hj hij hx hy ha hw hs
theorem i_seq (h:DE X cls W e o):DI X cls W tg e (gSeq o):=di_seq h
theorem i_rng1 (hm:X.mg "range" = none) (h:DE X cls W e o) (hs:isStar e = false:=by rfl) (hg:Gl X "range":=by rfl):DI X cls W tg (.Call (.Name "range" p) [e] [] pos) (gOs [o] kRng1):=di_rng1 hg hm h hs
theorem i_rng2 (hm:X.mg "range" = none) (h:DE X cls W a oa) (h':DE X cls W b ob) (hs:isStar a = false:=by rfl) (hs':isStar b = false:=by rfl) (hg:Gl X "range":=by rfl):DI X cls W tg (.Call (.Name "range" p) [a,b] [] pos) (gOs [oa,ob] kRng2):=di_rng2 hg hm h h' hs hs'
theorem n_lc {own:List (Str × Nat)} (hN:X.N.Nodup) (hi:DI X cls W tg iter it) (ok:BlkOk X.N X.env.scope scope own)
  (hg:∀ (s:Shared) (H:Hp) (C:Addr) (cl:List (Str × Addr)) (fp:List Addr),DG (X.blk s H scope (compEnvC scope cl C X.env) fp) cls tg f st) (ht:∀ (s:Shared) (H:Hp) (C:Addr) (cl:List (Str × Addr)) (fp:List Addr),DTs (X.blk s H scope (compEnvC scope cl C X.env) fp) cls ifs test)
  (he:∀ (s:Shared) (H:Hp) (C:Addr) (cl:List (Str × Addr)) (fp:List Addr),DE (X.blk s H scope (compEnvC scope cl C X.env) fp) cls Wno elt o) (hst:∀ j,j∈st→j∈own.map (·.2):=by decide) (hc:X.calm = true:=by rfl) (hs:∀ x,foldedSetIterable iter X.env x = pure x:=by intro _; rfl) :
  DE X cls W (.ListComp elt [⟨tg,iter,ifs,0⟩] scope pos) (.val (gLc (own.map (·.2)) it f test o.vg)):=de_lc hc hN hi ok hst hg ht he hs
theorem s_setLc (i:Nat) {own:List (Str × Nat)} (hN:X.N.Nodup) (hi:DI X cls W tg iter it) (ok:BlkOk X.N X.env.scope scope own)
  (hg:∀ (s:Shared) (H:Hp) (C:Addr) (cl:List (Str × Addr)) (fp:List Addr),DG (X.blk s H scope (compEnvC scope cl C X.env) fp) cls tg f st) (ht:∀ (s:Shared) (H:Hp) (C:Addr) (cl:List (Str × Addr)) (fp:List Addr),DTs (X.blk s H scope (compEnvC scope cl C X.env) fp) cls ifs test)
  (he:∀ (s:Shared) (H:Hp) (C:Addr) (cl:List (Str × Addr)) (fp:List Addr),DE (X.blk s H scope (compEnvC scope cl C X.env) fp) cls Wno elt o) (hst:∀ j,j∈st→j∈own.map (·.2):=by decide) (hc:X.calm = true:=by rfl) (hy:X.N[i]? = some y:=by rfl) (hyl:X.env.scope.names.lookup y = some .local:=by rfl)
  (hsw:swapsWith (.ListComp elt [⟨tg,iter,ifs,0⟩] scope pos) (some (.Name y py)) spos.line X.env = pure true:=by rfl) (hs:∀ x,foldedSetIterable iter X.env x = pure x:=by intro _; rfl) :
  DS X cls W (.Assign [.Name y py] (.ListComp elt [⟨tg,iter,ifs,0⟩] scope pos) spos) [i] (sSet i (gLc (own.map (·.2)) it f test o.vg)):=ds_setLc hc hN hy hyl hsw hi ok hst hg ht he hs
theorem n_ix (hr:Room k X.A) (ha:DE X cls W a oa) (hb:DE X cls W b ob) (hs:isSlice b = false:=by rfl):DE X cls W (.Subscript a b pos) (oIx kIxA oa ob):=de_ixA (hu_of hr) ha hb hs
theorem n_isi (cl:Ty) (hm:X.mg "isinstance" = none) (hmy:X.mg y = none) (ha:DE X cls W a oa) (hs:isStar a = false:=by rfl) (hg:Gl X "isinstance":=by rfl) (hgy:Gl X y:=by rfl) (hvy:bootBuiltins y = some (.type cl.nm):=by decide +kernel) (hny:y≠"__name__":=by decide) (hdy:(y == ("__debug__":Str)) = false:=by decide) :
  DE X cls W (.Call (.Name "isinstance" p) [a,.Name y p3] [] pos) (.val (gP1 (kIsi cl) oa)):=de_isi cl hg hm hgy hmy hvy hny hdy hs ha
theorem m_app (i:Nat) {apos:Pos} (he:DE X cls W e o) (hs:isStar e = false:=by rfl) (hN:X.N[i]? = some x:=by rfl) (hv:Vis X.env.scope x:=by first | exact .inl rfl | exact .inr (.inl rfl) | exact .inr (.inr rfl)) (hd:(x == ("__debug__":Str)) = false:=by decide) (hcd:(x == ("__classdict__":Str)) = false:=by decide)
  (hb:attributeBase (.Name x p) "append" X.env (eval (.Name x p) X.env) = eval (.Name x p) X.env:=by rfl) (hl:(apos.endLine == pos.line) = true:=by rfl):DE X cls W (.Call (.Attribute (.Name x p) "append" apos) [e] [] pos) (.val (gMut i (([o].map Opd.vg).map .val) mApp)):=de_mutO PySem.F.slot_list_append PySem.F.type_list_append mt_append o_app hN hv hd hcd (.cons hs he .nil) hb hl rfl
theorem m_ext (i:Nat) {apos:Pos} (he:DE X cls W e o) (hs:isStar e = false:=by rfl) (hN:X.N[i]? = some x:=by rfl) (hv:Vis X.env.scope x:=by first | exact .inl rfl | exact .inr (.inl rfl) | exact .inr (.inr rfl)) (hd:(x == ("__debug__":Str)) = false:=by decide) (hcd:(x == ("__classdict__":Str)) = false:=by decide)
  (hb:attributeBase (.Name x p) "extend" X.env (eval (.Name x p) X.env) = eval (.Name x p) X.env:=by rfl) (hl:(apos.endLine == pos.line) = true:=by rfl):DE X cls W (.Call (.Attribute (.Name x p) "extend" apos) [e] [] pos) (.val (gMut i [o] mExt)):=de_mutP PySem.F.slot_list_extend PySem.F.type_list_extend mt_extend p_ext hN hv hd hcd (.cons hs he .nil) hb hl rfl
structure Cl (P:Program) (w:World) (K:PySem.W.Frag) (mg:Str→Option Value) (base:Heap) (k:Nat) (x:Str) (sp:Sp):Prop where
 ex:∃ (f:Addr) (fd:FuncData) (ps:List Str),FnOk P w K mg base CX0 k f fd ps sp∧mg x = some (.ref f)∧PySem.W.keepIn K (.ref f) = true∧Binds K fd ps []
end
end Hu
namespace Hu
open PySem L2
def spLaw (K:PySem.W.Frag):Sp:=fun vs H Q _ => ∃ (a:Addr) (ns:List Int),vs = [.ref a]∧SqL K H a (ns.map V.int)∧ns.length≤63∧(∀ z∈ns,Builtin.Int.intBits z≤1048576)∧∀ H',Q (.bl true) H'
def Keeps (fn:FnT):Prop:=∀ ns:List Int,ns.length≤63→(∀ z∈ns,Builtin.Int.intBits z≤1048576)→∃ back,fn [.scr ns] = .ret (.d (.bool true)) back
theorem walk {l:PySem.W.OpenLaw} {k:Nat} {q:Program} {loose:List Str} {XP:(Str→Option Value)→Heap→Prop} {YP:World→Heap→Prop} {d:DefRec} {K:Params→PySem.W.Frag} {x:Str} (hn:l.most = some 63) (hdf:d.params.defaults = []) (hr:Room k callerA) (hY:∀ (w:World) (h:Heap),YP w h→(K w.params).In h) (F:∀ (w:World) (mg:Str→Option Value) (fa:Addr) (h:Heap),(K w.params).In h→h.Ns mainGlobals mg→mg d.name = some (.ref fa)→∃ fd:FuncData,(∀ (s:Shared) (u:Value),BindsTo s fd ⟨[u],[]⟩ [(x,u)])∧∀ base:Heap,(K w.params).In base→base.Ns mainGlobals mg→FnOk l.prog w (K w.params) mg base CX0 k fa fd [x] (spLaw (K w.params))):PySem.W.WalkO q loose XP YP l.row.toRowW d [] (fun f vs => PySem.call f vs) :=
 L2.walk_ofB (n:=63) (k:=k) (x:=x) (CX:=fun _ => CX0) (sp:=fun w => spLaw (K w.params)) hn (by decide) hdf hr hY F (fun _ _ a ns hl hb _ hS => ⟨a,ns,rfl,hS,hl,hb,fun _ => rfl⟩) fun _ _ _ _ _ z => z
end Hu
namespace Hu
open PySem L2
section
variable {K:Par} {F H:Hp} {σ:St} {ρ:Rho} {fp:Nat→List Addr}
def offF (vs:List Nat) (fp:Nat→List Addr):Nat→List Addr:=fun c => if c∈vs then [] else fp c
theorem offF_mem {vs:List Nat} {c:Nat} {b:Addr} (h:b∈offF vs fp c):b∈fp c∧c∉vs:=by
 unfold offF at h
 split at h
 ·simp at h
 ·exact ⟨h,by assumption⟩
end
theorem Tmp.off {K:Par} {F H:Hp} {fp:Nat→List Addr} {v:V} {t:T} {A:List Addr} (m:Tmp K F H fp v t A) (vs:List Nat):Tmp K F H (offF vs fp) v t A:=⟨m.r,fun b z c w => m.dj b z c (offF_mem w).1,m.ff⟩
section
variable {X:Cx} {cls:Str→Addr} {W:XW} {elt:Expr} {ifs:List Expr} {pos p p2:Pos} {o:Opd} {scope:Scope} {x y:Str} {i j:Nat} {test:G Bool}
end
end Hu
namespace Hu
open PySem L2
section
variable {X:Cx}
end
end Hu
namespace Hu
open PySem L2
section
variable {X:Cx}
def rFindL (K:PySem.W.Frag) (f:List D→D→Option Int):V→List V→Hp→VK→Prop:=fun x xs H Q => ∃ (a:Addr) (ws:List V) (ds:List D) (y:V) (d:D) (n:Int),x = .ref a∧xs = [y]∧SqL K H a ws∧DpAll K H ws ds∧Dp K H y d∧okD (.list (d :: ds)) = true∧f ds d = some n∧Q (.int n) H
def fIndex (ds:List D) (d:D):Option Int:=(ds.findIdx? fun y => PyData.eqv y d).map fun (j:Nat) => (j:Int)
theorem okCons {d:D} {ds:List D} (h:okD (.list (d :: ds)) = true):d.plain = true∧PyData.plainAll ds = true∧min (PyData.depthAll ds) d.depth < 64:=by
 have p:=PyData.plain_of_canLay0 _ (SeqAt.canLay_of_shaped h)
 simp only [PyData.plain,PyData.plainAll,Bool.and_eq_true] at p
 refine ⟨p.1,p.2,?_⟩
 have:=(SeqAt.depth_of_shaped h)
 simp only [PyData.depth,PyData.depthAll] at this
 omega
theorem mt_indexD (hu:X.A.units + 65 < cLine):MtR X "list.index" (rFindL X.K fIndex):=fun pins s σ H x xs v us Q I rx rxs h => by
 obtain ⟨a,ws,ds,y,d,n,rfl,rfl,hs,hd,hy,ok,hf,q⟩:=h
 cases rx
 obtain ⟨u,rfl,ru⟩:=rxs.one
 obtain ⟨its,rv,⟨⟨cls,dd,data,sl⟩,n2,ho,hc,hdn,hdt⟩,hlen⟩:=I.list hs
 simp only at hc hdt
 subst hc hdt
 obtain ⟨as,rs⟩:=Dp.readsAll I _ _ _ hd rv
 obtain ⟨bs,rx⟩:=Dp.reads I _ _ _ hy ru
 obtain ⟨h1,h2,h3⟩:=okCons ok
 unfold fIndex at hf
 simp only [Option.map_eq_some_iff] at hf
 obtain ⟨j,hj,rfl⟩:=hf
 have rs':ReadsAll s.heap its.toArray.toList ds as:=by simpa using rs
 obtain ⟨hj1,hj2,hj3⟩:=SeqAt.hit_at rs' h2 hj
 have hz:its.length≤sizeLine:=(by rw [← rv.length]; exact hlen)
 have hs2:its.toArray.size = its.length:=by simp
 rw [hs2] at hj1
 rw [sizeLine_eq] at hz
 refine call_meets (PySem.F.slot_list_index) ⟨_,ho,rfl⟩ PySem.F.entry_list_index (PySem.F.args_list_index_2 _ _)
  (SeqAt.list_indexAt a its.toArray n2 dd sl u _ j (by simpa using hj1) (by omega) hj2 hj3) ⟨ho,SeqAt.items_plain (A:=X.A) rs' rx h2 h1 (by omega),?_⟩
 exact ⟨.int _,H,I.tok _,⟨_,rfl⟩,q⟩
end
end Hu
namespace Hu
open PySem L2
def isL:T→Bool
 | .d (.list _) => true
 | .lst _ => true
 | .scr _ => true
 | _ => false
def chkG (g:G T):G T:=fun ρ => (g ρ).bind fun t ρ' => if isL t = true then .ok t ρ' else .bad
def Opd.chk:Opd→Opd
 | .pk g => .pk (chkG g)
 | .val g => .val (chkG g)
 | o => o
def Opd.pre:Opd→Rho→Bool
 | .nm i,ρ => match getS ρ i with
  | some t => isL t
  | none => false
 | .pk _,_ => true
 | .val _,_ => true
 | _,_ => false
def gMeth (o:Opd) (os:List Opd) (kk:List T→Option T):G T:=fun ρ => if o.pre ρ = true then gOs (o.chk :: os) (kP kk) ρ else .bad
section
variable {K:Par} {W:XW} {F H:Hp} {σ:St} {Q:VK}
theorem isL_ty (e:Same F H) {v:V} {t:T} {A:List Addr} (r:R K F H v t A) (h:isL t = true):tyV K.K "list" v H:=by
 cases r with
 | d z =>
  cases z with
  | lst h1 _ => exact .inl ⟨rfl,_,.of (e _ _ h1)⟩
  | _ => simp [isL] at h
 | scr z => exact .inl ⟨rfl,_,sqL_on e z⟩
 | lst h1 _ _ => exact .inl ⟨rfl,_,.of h1⟩
 | _ => simp [isL] at h
theorem chk_ok {o:Opd} {ρ:Rho} {fp:Nat→List Addr} (s:Sim K F H σ ρ fp) (hp:o.pre ρ = true) (h:tO K W o.chk σ H Q):tO K W o σ H fun v H1 => tyV K.K "list" v H1∧Q v H1:=by
 cases o with
 | nm i =>
  obtain ⟨v,hv,q⟩:=h
  refine ⟨v,hv,?_,q⟩
  simp only [Opd.pre] at hp
  cases c:getS ρ i with
  | none => rw [c] at hp; cases hp
  | some t =>
   rw [c] at hp
   obtain ⟨v',hv',r⟩:=s.sl i t (getS_some c)
   rw [hv] at hv'; cases hv'
   exact isL_ty s.sub r hp
 | con v x => simp [Opd.pre] at hp
 | iv g => simp [Opd.pre] at hp
 | pk g =>
  obtain ⟨ρ1,F1,fp1,s1,o1⟩:=h
  refine ⟨ρ1,F1,fp1,s1,o1.bind.imp (Ext.refl F1 H fp1) fun t ρ' _ p v F' H' fp' A s' r x => ?_⟩
  split at p
  ·exact ⟨isL_ty s'.sub r (by assumption),p v F' H' fp' A s' r x⟩
  ·exact p.elim
 | val g =>
  obtain ⟨ρ1,F1,fp1,s1,o1⟩:=h
  refine ⟨ρ1,F1,fp1,s1,o1.bind.imp (Ext.refl F1 H fp1) fun t ρ' _ p v F' H' fp' A s' m x => ?_⟩
  split at p
  ·exact ⟨isL_ty s'.sub m.r (by assumption),p v F' H' fp' A s' m x⟩
  ·exact p.elim
theorem meth_ok {o:Opd} {os:List Opd} {kk:List T→Option T} {r:V→List V→Hp→VK→Prop} (hf:o.fine = true) (hfs:os.all Opd.fine = true) (hk:PureN K (fun vs H Q => match vs with
  | x :: xs => r x xs H Q
  | [] => False) kk) (q:tG K W (gMeth o os kk) σ H Q):tO K W o σ H fun v H1 => tyV K.K "list" v H1∧tOs K W os σ H1 fun vs H2 => r v vs H2 Q:=by
 obtain ⟨ρ,F,fp,s,o1⟩:=q
 unfold gMeth at o1
 split at o1
 ·rename_i hp
  have hf2:(o.chk :: os).all Opd.fine = true:=by
   simp only [List.all_cons,Bool.and_eq_true]
   refine ⟨?_,hfs⟩
   cases o <;> first | rfl | exact hf
  exact chk_ok s hp (os_pure hf2 hk (σ:=σ) (H:=H) (Q:=Q) ⟨ρ,F,fp,s,o1⟩)
 ·exact o1.elim
end
section
variable {X:Cx} {cls:Str→Addr} {W:XW} {e ob:Expr} {es:List Expr} {os:List Opd} {pos apos:Pos} {o:Opd} {name:Str} {id:String} {r:V→List V→Hp→VK→Prop} {kk:List T→Option T}
theorem de_meth (slot:Slot "list" name id) (hty:typeOf (.builtin id) = pure (.type "method_descriptor")) (hr:MtR X id r) (hk:PureN (Px X cls) (fun vs H Q => match vs with
  | x :: xs => r x xs H Q
  | [] => False) kk) (ho:DE X cls W ob o) (h:DAs X cls W (e :: es) os) (hb:attributeBase ob name X.env (eval ob X.env) = eval ob X.env) (hl:(apos.endLine == pos.line) = true) (hf:fewC (e :: es) = true) :
  DE X cls W (.Call (.Attribute ob name apos) (e :: es) [] pos) (.val (gMeth o os kk)):=by
 have hst:anyStar (e :: es) = false:=h.star
 have hst2:=hst
 simp only [anyStar,List.any_cons,Bool.or_eq_false_iff] at hst
 exact ⟨(pe_bm PySem.F.plainAttrs_list slot hty hr ho.1 h.pa hb (few_ok hst2 hf) hl (star_cons hst.1) (star_none hst.2)).imp fun σ H Q q => meth_ok ho.2 h.fine hk q,rfl⟩
def kFind (f:List D→D→Option Int) (a b:T):Option T:=match listOf a,datOf b with
 | some ds,some d => if okD (.list (d :: ds)) = true then (f ds d).map fun n => .d (.int n) else none
 | _,_ => none
theorem p_find {K:Par} {f:List D→D→Option Int}:PureN K (fun vs H Q => match vs with
  | x :: xs => rFindL K.K f x xs H Q
  | [] => False) (kk2 (kFind f)):=fun vs ts F H t e p q Q m => by
 obtain ⟨a,b,rfl,c0⟩:=kk2_some q
 obtain ⟨v,z,rfl,⟨A,r⟩,B,r2⟩:=pairedTwo p
 unfold kFind at c0
 split at c0
 ·rename_i ds d h1 h2
  split at c0
  ·rename_i ok
   simp only [Option.map_eq_some_iff] at c0
   obtain ⟨n,c0,rfl⟩:=c0
   obtain ⟨c,ws,rfl,h,zz⟩:=listOf_at e r h1
   have nd:=okD_noDict ok
   simp only [noDict,noDictA,Bool.and_eq_true] at nd
   exact ⟨c,ws,ds,z,d,n,rfl,rfl,.of h,zz.dp e nd.2,datOf_dp e r2 h2 nd.1,ok,c0,mk_scal m e (.int _)⟩
  ·cases c0
 ·cases c0
theorem m_index {k:Nat} (hr:Room k X.A) (ho:DE X cls W ob o) {oa:Opd} (h:DE X cls W e oa) (hs:isStar e = false:=by rfl) (hb:attributeBase ob "index" X.env (eval ob X.env) = eval ob X.env:=by rfl) (hl:(apos.endLine == pos.line) = true:=by rfl) :
  DE X cls W (.Call (.Attribute ob "index" apos) [e] [] pos) (.val (gMeth o [oa] (kk2 (kFind fIndex)))):=de_meth PySem.F.slot_list_index PySem.F.type_list_index (mt_indexD (hu65 hr)) p_find ho (.cons hs h .nil) hb hl rfl
variable {a b:Expr} {oa ob':Opd} {p kp:Pos} {k:Nat}
end
end Hu
namespace Hu
open PySem L2
section
variable {X:Cx} {cls:Str→Addr} {W:XW} {e e2 tg:Expr} {o u:Opd} {pos p:Pos}
end
end Hu
namespace Hu
open PySem L2
def kid (j:Nat):T→Option T
 | .lst ts => ts[j]?
 | .tup ts => ts[j]?
 | .dK kvs => (kvs.map Prod.snd)[j]?
 | .dT kvs => (kvs.map Prod.snd)[j]?
 | .ins _ fs => (fs.map Prod.snd)[j]?
 | _ => none
def reval {κ:Type}:List (κ × T)→List T→List (κ × T)
 | (k,_) :: r,t :: ts => (k,t) :: reval r ts
 | _,_ => []
def setKid (j:Nat) (u:T):T→T
 | .lst ts => .lst (ts.set j u)
 | .tup ts => .tup (ts.set j u)
 | .dK kvs => .dK (reval kvs ((kvs.map Prod.snd).set j u))
 | .dT kvs => .dT (reval kvs ((kvs.map Prod.snd).set j u))
 | .ins c fs => .ins c (reval fs ((fs.map Prod.snd).set j u))
 | t => t
theorem reval_fst {κ:Type}:∀ {kvs:List (κ × T)} {ts:List T},ts.length = kvs.length→(reval kvs ts).map Prod.fst = kvs.map Prod.fst
 | [],ts,h => by cases ts <;> rfl
 | (k,v) :: r,[],h => by simp at h
 | (k,v) :: r,t :: ts,h => by simp [reval,reval_fst (kvs:=r) (ts:=ts) (by simpa using h)]
theorem reval_snd {κ:Type}:∀ {kvs:List (κ × T)} {ts:List T},ts.length = kvs.length→(reval kvs ts).map Prod.snd = ts
 | [],ts,h => by
  cases ts with
  | nil => rfl
  | cons t ts => simp at h
 | (k,v) :: r,[],h => by simp at h
 | (k,v) :: r,t :: ts,h => by simp [reval,reval_snd (kvs:=r) (ts:=ts) (by simpa using h)]
def KidAt (K:Par) (H:Hp) (v:V) (t:T) (j:Nat) (v':V):Prop:=∃ a,v = .ref a∧match t with
 | .lst ts => ∃ vs,H a = some (.lst vs)∧vs.length = ts.length∧vs[j]? = some v'
 | .tup ts => ∃ vs,H a = some (.tup vs)∧vs.length = ts.length∧vs[j]? = some v'
 | .dK kvs => ∃ es:List (Key × V),H a = some (.dK es)∧es.map Prod.fst = kvs.map Prod.fst∧(es.map Prod.snd)[j]? = some v'
 | .dT kvs => ∃ es:List (List Key × V),H a = some (.dT es)∧es.map Prod.fst = kvs.map Prod.fst∧(es.map Prod.snd)[j]? = some v'
 | .ins c fs => ∃ dx es,H a = some (.ins (K.cls c) dx es)∧H dx = some (.own a)∧es.map Prod.fst = fs.map Prod.fst∧(es.map Prod.snd)[j]? = some v'
 | _ => False
section
variable {K:Par} {F H:Hp} {A:List Addr} {v:V} {t u:T} {j:Nat}
theorem Loc.kid (r:R K F H v t A) (h:kid j t = some u):∃ v' A',KidAt K H v t j v'∧Loc K F H v t A v' u A' fun w => setKid j w t:=by
 cases r with
 | d _ => simp [Hu.kid] at h
 | scr _ => simp [Hu.kid] at h
 | @lst a vs ts A1 h1 ra n =>
  obtain ⟨v',A',e,L⟩:=Loc.item h1 ra n h
  exact ⟨v',A',⟨a,rfl,vs,h1,ra.length,e⟩,L⟩
 | @tup a vs ts A1 h1 ra =>
  obtain ⟨v',A',e,r0,i0,put⟩:=RA.loc ra h
  refine ⟨v',A',⟨a,rfl,vs,h1,ra.length,e⟩,r0,i0,fun F' H' t2 A2 ef st k r i => ?_⟩
  obtain ⟨A3,r3,i3⟩:=put F' H' t2 A2 ef st k r i
  exact ⟨A3,.tup (st _ _ h1) r3,i3⟩
 | @dK a es kvs A1 h1 h0 ra n =>
  obtain ⟨v',A',e,r0,i0,put⟩:=RA.loc ra h
  refine ⟨v',A',⟨a,rfl,es,h1,h0,e⟩,r0,fun b z => List.mem_cons_of_mem _ (i0 b z),fun F' H' t2 A2 ef st k r i => ?_⟩
  obtain ⟨A3,r3,i3⟩:=put F' H' t2 A2 ef st (fun b z w => k b (List.mem_cons_of_mem _ z) w) r fun b z w => i b z (List.mem_cons_of_mem _ w)
  have na:a∉A':=fun z => n (i0 a z)
  refine ⟨a :: A3,.dK ((k a List.mem_cons_self na).trans h1) ?_ ?_ fun z => ?_,fun b z => ?_⟩
  ·rw [reval_fst (by simp)]; exact h0
  ·rw [reval_snd (by simp)]; exact r3
  ·rcases i3 a z with z | ⟨z,_⟩
   ·exact na (i a z List.mem_cons_self)
   ·exact n z
  ·rcases List.mem_cons.mp z with rfl | z
   ·exact .inr ⟨List.mem_cons_self,na⟩
   ·rcases i3 b z with z | ⟨z,w⟩
    ·exact .inl z
    ·exact .inr ⟨List.mem_cons_of_mem _ z,w⟩
 | @dT a es kvs A1 h1 h0 ra n =>
  obtain ⟨v',A',e,r0,i0,put⟩:=RA.loc ra h
  refine ⟨v',A',⟨a,rfl,es,h1,h0,e⟩,r0,fun b z => List.mem_cons_of_mem _ (i0 b z),fun F' H' t2 A2 ef st k r i => ?_⟩
  obtain ⟨A3,r3,i3⟩:=put F' H' t2 A2 ef st (fun b z w => k b (List.mem_cons_of_mem _ z) w) r fun b z w => i b z (List.mem_cons_of_mem _ w)
  have na:a∉A':=fun z => n (i0 a z)
  refine ⟨a :: A3,.dT ((k a List.mem_cons_self na).trans h1) ?_ ?_ fun z => ?_,fun b z => ?_⟩
  ·rw [reval_fst (by simp)]; exact h0
  ·rw [reval_snd (by simp)]; exact r3
  ·rcases i3 a z with z | ⟨z,_⟩
   ·exact na (i a z List.mem_cons_self)
   ·exact n z
  ·rcases List.mem_cons.mp z with rfl | z
   ·exact .inr ⟨List.mem_cons_self,na⟩
   ·rcases i3 b z with z | ⟨z,w⟩
    ·exact .inl z
    ·exact .inr ⟨List.mem_cons_of_mem _ z,w⟩
 | @ins a dx c es fs A1 h1 h2 h0 ra n m =>
  obtain ⟨v',A',e,r0,i0,put⟩:=RA.loc ra h
  have up:∀ b,b∈A1→b∈a :: dx :: A1:=fun b z => List.mem_cons_of_mem _ (List.mem_cons_of_mem _ z)
  refine ⟨v',A',⟨a,rfl,dx,es,h1,h2,h0,e⟩,r0,fun b z => up b (i0 b z),fun F' H' t2 A2 ef st k r i => ?_⟩
  obtain ⟨A3,r3,i3⟩:=put F' H' t2 A2 ef st (fun b z w => k b (up b z) w) r fun b z w => i b z (up b w)
  have na:a∉A':=fun z => n (i0 a z)
  have nd:dx∉A':=fun z => m (i0 dx z)
  refine ⟨a :: dx :: A3,.ins ((k a List.mem_cons_self na).trans h1) ((k dx (List.mem_cons_of_mem _ List.mem_cons_self) nd).trans h2) ?_ ?_ (fun z => ?_) (fun z => ?_),fun b z => ?_⟩
  ·rw [reval_fst (by simp)]; exact h0
  ·rw [reval_snd (by simp)]; exact r3
  ·rcases i3 a z with z | ⟨z,_⟩
   ·exact na (i a z List.mem_cons_self)
   ·exact n z
  ·rcases i3 dx z with z | ⟨z,_⟩
   ·exact nd (i dx z (List.mem_cons_of_mem _ List.mem_cons_self))
   ·exact m z
  ·rcases List.mem_cons.mp z with rfl | z
   ·exact .inr ⟨List.mem_cons_self,na⟩
   ·rcases List.mem_cons.mp z with rfl | z
    ·exact .inr ⟨List.mem_cons_of_mem _ List.mem_cons_self,nd⟩
    ·rcases i3 b z with z | ⟨z,w⟩
     ·exact .inl z
     ·exact .inr ⟨up b z,w⟩
end
def getP:List Nat→T→Option T
 | [],t => some t
 | j :: p,t => (kid j t).bind (getP p)
def putP:List Nat→T→T→T
 | [],_,u => u
 | j :: p,t,u => match kid j t with
  | some s => setKid j (putP p s u) t
  | none => t
inductive Acc where
 | ix (o:Opd)
 | fld (c f:Str)
def keyIx {κ:Type} [DecidableEq κ] (kvs:List (κ × T)) (k:κ):Option Nat:=kvs.findIdx? fun p => decide (p.1 = k)
def ixOf:T→T→Option Nat
 | .lst ts,.d (.int k) => ixN ts.length k
 | .tup ts,.d (.int k) => ixN ts.length k
 | .dK kvs,y => (keyOf y).bind (keyIx kvs)
 | .dT kvs,y => (tkeyOf y).bind (keyIx kvs)
 | _,_ => none
def Acc.at (a:Acc) (ρ:Rho) (t:T):Option Nat:=match a with
 | .ix o => (match o with
  | .nm i => getS ρ i
  | .con _ x => some (.d x)
  | _ => none).bind fun y => ixOf t y
 | .fld c f => match t with
  | .ins d fs => if d = c then keyIx fs f else none
  | _ => none
def pathOf (ρ:Rho):List Acc→T→Option (List Nat)
 | [],_ => some []
 | a :: as,t => (a.at ρ t).bind fun j => (kid j t).bind fun u => (pathOf ρ as u).map (j :: ·)
theorem pathOf_get {ρ:Rho}:∀ {as:List Acc} {t:T} {p:List Nat},pathOf ρ as t = some p→∃ u,getP p t = some u
 | [],t,p,h => by simp [pathOf] at h; subst h; exact ⟨t,rfl⟩
 | a :: as,t,p,h => by
  simp only [pathOf,Option.bind_eq_some_iff,Option.map_eq_some_iff] at h
  obtain ⟨j,h1,u,h2,q,h3,rfl⟩:=h
  obtain ⟨w,e⟩:=pathOf_get h3
  exact ⟨w,by simp [getP,h2,e]⟩
end Hu
namespace Hu
open PySem L2
def tPl (K:Par) (i:Nat) (as:List Acc):TE:=fun σ H Q => ∃ ρ F fp t p u v0,Sim K F H σ ρ fp∧getS ρ i = some t∧pathOf ρ as t = some p∧getP p t = some u∧σ[i]? = some (some v0)∧R K F H v0 t (fp i)∧∀ v' A',Loc K F H v0 t (fp i) v' u A' (putP p t)→Q v' H
theorem pathOf_snoc {ρ:Rho} {a:Acc}:∀ {as:List Acc} {t:T} {p:List Nat},pathOf ρ (as++[a]) t = some p→∃ q s j u,pathOf ρ as t = some q∧getP q t = some s∧a.at ρ s = some j∧kid j s = some u∧p = q++[j]∧getP p t = some u∧putP p t = fun w => putP q t (setKid j w s)
 | [],t,p,h => by
  simp only [List.nil_append,pathOf,Option.bind_eq_some_iff,Option.map_eq_some_iff] at h
  obtain ⟨j,h1,u,h2,q,h3,rfl⟩:=h
  simp only [Option.some.injEq] at h3
  subst h3
  exact ⟨[],t,j,u,rfl,rfl,h1,h2,rfl,by simp [getP,h2],by funext w; simp [putP,h2]⟩
 | b :: as,t,p,h => by
  simp only [List.cons_append,pathOf,Option.bind_eq_some_iff,Option.map_eq_some_iff] at h
  obtain ⟨j,h1,u,h2,q,h3,rfl⟩:=h
  obtain ⟨q',s,j',u',e1,e2,e3,e4,rfl,e5,e6⟩:=pathOf_snoc h3
  refine ⟨j :: q',s,j',u',by simp [pathOf,h1,h2,e1],by simp [getP,h2,e2],e3,e4,rfl,by simp [getP,h2,e5],?_⟩
  funext w
  simp only [putP,h2,e6]
theorem keyIx_at {κ:Type} [DecidableEq κ] {v':V}:∀ {es:List (κ × V)} {kvs:List (κ × T)} {k:κ} {j:Nat},es.map Prod.fst = kvs.map Prod.fst→keyIx kvs k = some j→(es.map Prod.snd)[j]? = some v'→valV es k = some v'
 | [],kvs,k,j,_,_,h => by simp at h
 | (a,w) :: es,[],k,j,h,_,_ => by simp at h
 | (a,w) :: es,(b,t) :: kvs,k,j,h,h1,h2 => by
  simp only [List.map_cons,List.cons.injEq] at h
  obtain ⟨rfl,h⟩:=h
  unfold keyIx at h1
  rw [List.findIdx?_cons] at h1
  unfold valV
  by_cases c:a = k
  ·simp only [c,decide_true,if_true,Option.some.injEq] at h1
   subst h1
   simp at h2
   simp [c,h2]
  ·simp only [c,decide_false,Bool.false_eq_true,if_false,Option.map_eq_some_iff] at h1
   obtain ⟨j',h1,rfl⟩:=h1
   have:=keyIx_at (v':=v') h h1 (by simpa using h2)
   unfold valV at this
   simpa [c] using this
section
variable {X:Cx} {cls:Str→Addr} {W:XW} {e b:Expr} {pos p:Pos} {o ob:Opd} {x:Str} {i:Nat} {as:List Acc}
abbrev DP (X:Cx) (cls:Str→Addr) (e:Expr) (i:Nat) (as:List Acc):Prop:=PE X e (tPl (Px X cls) i as)
theorem dp_name (hN:X.N[i]? = some x) (hv:Vis X.env.scope x) (hd:(x == ("__debug__":Str)) = false) (hcd:(x == ("__classdict__":Str)) = false):DP X cls (.Name x pos) i []:=(pe_var hN hv hd hcd).imp fun σ H Q q => by
 obtain ⟨ρ,F,fp,t,p,u,v0,s,h1,h2,h3,h4,r,q⟩:=q
 simp only [pathOf,Option.some.injEq] at h2
 subst h2
 simp only [getP,Option.some.injEq] at h3
 subst h3
 exact ⟨v0,h4,q v0 (fp i) (Loc.refl r)⟩
def isStill:Opd→Bool
 | .nm _ => true
 | .con _ _ => true
 | _ => false
theorem dp_ix (hu:X.A.units + 1 < cLine) (h:DP X cls e i as) (hb:DE X cls W b ob) (st:isStill ob = true) (hs:isSlice b = false):DP X cls (.Subscript e b pos) i (as++[.ix ob]) :=
 (pe_ix (ix_seq.or (ix_dic hu)) h hb.1 (plainIx_ok hs)).imp fun σ H Q q => by
  obtain ⟨ρ,F,fp,t,p,u,v0,s,h1,h2,h3,h4,r,q⟩:=q
  obtain ⟨p0,s0,j,u',e1,e2,e3,e4,rfl,e5,e6⟩:=pathOf_snoc h2
  rw [e5] at h3
  cases h3
  refine ⟨ρ,F,fp,t,p0,s0,v0,s,h1,e1,e2,h4,r,fun v1 A1 L1 => ?_⟩
  obtain ⟨v',A',ka,L2⟩:=Loc.kid L1.r e4
  have L:=L1.trans L2
  rw [e6] at q
  have q':=q v' A' L
  have fin:∀ (y:V) (ty:T) (B:List Addr),R (Px X cls) F H y ty B→ixOf s0 ty = some j→rIx X.K v1 y H Q∨rDIx v1 y H Q:=fun y ty B ry hj => by
   clear e6 e4 e2 L1 L2 L q e3
   obtain ⟨a,rfl,ka⟩:=ka
   unfold ixOf at hj
   split at hj
   ·rename_i ts k
    obtain ⟨vs,k1,k2,k3⟩:=ka
    exact .inl (.inl ⟨a,vs,k,v',rfl,ry.int,.of k1,by unfold atI; rw [k2,hj]; simpa using k3,q'⟩)
   ·rename_i ts k
    obtain ⟨vs,k1,k2,k3⟩:=ka
    exact .inl (.inr (.inl ⟨a,vs,k,v',rfl,ry.int,.of k1,by unfold atI; rw [k2,hj]; simpa using k3,q'⟩))
   ·rename_i kvs _
    simp only [Option.bind_eq_some_iff] at hj
    obtain ⟨k,hk,hj⟩:=hj
    obtain ⟨es,k1,k2,k3⟩:=ka
    obtain rfl:=keyOf_at ry hk
    exact .inr ⟨a,v',rfl,.inl ⟨_,k1⟩,.inl ⟨es,k,.inl k1,rfl,(keyIx_at k2 hj k3).symm⟩,q'⟩
   ·rename_i kvs _
    simp only [Option.bind_eq_some_iff] at hj
    obtain ⟨k,hk,hj⟩:=hj
    obtain ⟨es,k1,k2,k3⟩:=ka
    obtain ⟨c,rfl,hc⟩:=tkeyOf_at s.sub ry hk
    exact .inr ⟨a,v',rfl,.inr ⟨_,k1⟩,.inr ⟨es,k,c,.inl k1,rfl,hc,(keyIx_at k2 hj k3).symm⟩,q'⟩
   ·cases hj
  cases ob with
  | nm l =>
   simp only [Acc.at,Option.bind_eq_some_iff] at e3
   obtain ⟨y,hy,hj⟩:=e3
   obtain ⟨v,hv,ry⟩:=s.sl l y (getS_some hy)
   exact ⟨v,hv,fin v y _ ry hj⟩
  | con v x =>
   simp only [Acc.at,Option.bind_some] at e3
   exact fin v (.d x) [] (.d (conOk.fz hb.2)) e3
  | _ => simp [isStill] at st
end
def gMutL (i:Nat) (as:List Acc) (os:List Opd) (m:MutF):G T:=fun ρ => match getS ρ i with
 | none => .bad
 | some t => match pathOf ρ as t with
  | none => .bad
  | some p => match getP p t with
   | some (.lst xs) => gOs os (fun ts ρ' => match m xs ts with
    | some (res,ys) => if i < ρ'.length then .ok res (ρ'.set i (some (putP p t (.lst ys)))) else .bad
    | none => .bad) (ρ.set i none)
   | _ => .bad
section
variable {K:Par} {W:XW} {F H F0 H0:Hp} {σ:St} {fp fp0:Nat→List Addr} {Q:VK} {i:Nat} {as:List Acc} {m:MutF}
theorem Ext.cover {A B:List Addr} {fp':Nat→List Addr} (x:Ext F0 H0 fp0 F H fp A) (h:∀ b,(b∈B∨∃ j,b∈fp' j)→(b∈A∨∃ j,b∈fp j)):Ext F0 H0 fp0 F H fp' B:=⟨x.keep,x.fsub,x.fnew,fun b z => x.own b (h b z)⟩
theorem put_slot {ρ:Rho} {v0:V} {t:T} {A B:List Addr} (s:Sim K F H σ ρ fp) (m:Tmp K F H fp v0 t A) (l:i < ρ.length) (hv:σ[i]? = some (some v0)) (x:Ext F0 H0 fp0 F H fp (A++B)) (dB:∀ b,b∈A→b∉B) (e:∀ b,b∈B→∀ j,b∉fp j) :
  ∃ fp1,Sim K F H σ (ρ.set i (some t)) fp1∧fp1 i = A∧Ext F0 H0 fp0 F H fp1 B∧∀ b,b∈B→∀ j,b∉fp1 j:=by
 have s1:=s.set m l
 rw [set_same hv] at s1
 refine ⟨_,s1,by simp,x.cover fun b z => ?_,fun b z j w => ?_⟩
 ·rcases z with z | ⟨j,z⟩
  ·exact .inl (List.mem_append_right _ z)
  ·split at z
   ·exact .inl (List.mem_append_left _ z)
   ·exact .inr ⟨j,z⟩
 ·split at w
  ·exact dB b w z
  ·exact e b z j w
theorem mutLO_ok {r:V→List V→Hp→VK→Prop} {gs:List (G T)} (hm:MutO K r m) (q:tG K W (gMutL i as (gs.map .val) m) σ H Q):tPl K i as σ H fun v H1 => tyV K.K "list" v H1∧tOs K W (gs.map .val) σ H1 fun vs H2 => r v vs H2 Q:=by
 obtain ⟨ρ,F,fp,s,q⟩:=q
 unfold gMutL at q
 cases h0:getS ρ i with
 | none => rw [h0] at q; exact q.elim
 | some t =>
 rw [h0] at q
 simp only at q
 cases h1:pathOf ρ as t with
 | none => rw [h1] at q; exact q.elim
 | some p =>
 rw [h1] at q
 simp only at q
 split at q
 ·rename_i xs h2
  obtain ⟨v0,hv,r0⟩:=s.sl i t (getS_some h0)
  refine ⟨ρ,F,fp,t,p,.lst xs,v0,s,h0,h1,h2,hv,r0,fun v' A' L => ?_⟩
  have hA:∃ a vs0 A2,v' = .ref a∧A' = a :: A2∧H a = some (.lst vs0)∧RA K F H vs0 xs A2∧a∉A2:=by
   cases L.r with
   | lst e1 e2 e3 => exact ⟨_,_,_,rfl,rfl,e1,e2,e3⟩
  obtain ⟨a,vs0,A2,rfl,rfl,e1,e2,e3⟩:=hA
  refine ⟨.inl ⟨rfl,_,.of e1⟩,?_⟩
  have m0:Tmp K F H (fun j => if j = i then [] else fp j) v0 t (fp i):=⟨r0,fun b z j w => by
   split at w
   ·simp at w
   ·rename_i c; exact s.dj i j (Ne.symm c) b z w,s.ff i⟩
  refine gOs_run (by simp [Opd.fine]) (Ext.drop F H fp i) (s.drop i) q fun vs ys ts ρ' F' H' fp' B s' x ar fi _ q => ?_
  obtain ⟨ra,bd,bf⟩:=ar.vals fi
  clear ar fi
  obtain ⟨m1,nA⟩:=m0.on (s.drop i) x s'
  cases hmm:m xs ts with
  | none => rw [hmm] at q; exact q.elim
  | some w =>
  obtain ⟨res,ys⟩:=w
  rw [hmm] at q
  simp only at q
  split at q
  ·rename_i li
   have st:∀ b,b∈fp i→H' b = H b:=fun b z => by
    obtain ⟨o,e,_⟩:=s.mt i b z
    rw [e]
    exact x.keep b o e (m0.dj b z)
   have L':=L.frame x.fsub ((s.drop i).tups x) st
   have x1:Ext F H fp F' H' fp' (fp i++B):=((Ext.drop F H fp i).trans x).more fun b z => by
    rcases List.mem_append.mp z with z | z
    ·exact .inr (.inl ⟨i,z⟩)
    ·exact .inl z
   obtain ⟨fp1,s1,ef,x2,dB⟩:=put_slot s' m1 li hv x1 nA bd
   have e1':H' a = some (.lst vs0):=(st a (L.sub a List.mem_cons_self)).trans e1
   have ra0:RA K F' H' vs0 xs A2:=e2.frame x.fsub ((s.drop i).tups x) fun b z => st b (L.sub b (List.mem_cons_of_mem _ z))
   refine hm F' H' a vs0 xs A2 vs ts B res ys s'.sub e1' ra0 ra (fun b z w => nA b (L.sub b (List.mem_cons_of_mem _ z)) w) hmm Q fun vs1 A1 rv C k1 k2 k3 k4 k5 => ?_
   obtain ⟨fp2,s2,m2,x3⟩:=mut_loc (i:=i) (xs:=xs) (put:=putP p t) (a:=a) (A':=A2) (t:=t) s1 hv (by rw [List.getElem?_set_self li]) (by rw [ef]; exact L') x2 ra.live bf dB e3 ⟨_,e1'⟩ k1 k2 k3 k4 k5
   rw [List.set_set] at s2
   exact q rv F' _ fp2 C s2 m2 x3
  ·exact q.elim
 ·exact q.elim
end
end Hu
namespace Hu
open PySem L2
section
variable {K:Par} {W:XW} {F H F0 H0:Hp} {σ:St} {fp fp0:Nat→List Addr} {Q:VK} {i:Nat} {as:List Acc} {m:MutF}
def mIns:MutF
 | xs,[.d (.int k),t] => if (decide (xs.length < sizeLine)&&decide (0≤k)&&decide (k.natAbs < 2 ^ 62)) = true then some (.d .none,xs.take k.toNat++t :: xs.drop k.toNat) else none
 | _,_ => none
def rIns:V→List V→Hp→VK→Prop:=fun x vs H Q => ∃ (l:Addr) (xs:List V) (i:Int) (y:V),x = .ref l∧vs = [.int i,y]∧H l = some (.lst xs)∧xs.length < sizeLine∧0≤i∧i < 2 ^ 63∧Q .non (upd H l (.lst (xs.take i.toNat++[y]++xs.drop i.toNat)))
theorem RA.takeDrop {vs:List V} {ts:List T} {A:List Addr} (h:RA K F H vs ts A) (n:Nat):∃ A1 A2,RA K F H (vs.take n) (ts.take n) A1∧RA K F H (vs.drop n) (ts.drop n) A2∧A = A1++A2∧∀ a,a∈A1→a∉A2:=by
 have h':=h
 have e:=List.take_append_drop n ts
 rw [← e] at h'
 obtain ⟨v1,v2,A1,A2,e1,r1,r2,e2,d⟩:=RA.split h'
 have l:=h.length
 have l1:=r1.length
 simp only [List.length_take] at l1
 have e3:vs.take n = v1∧vs.drop n = v2:=by
  subst e1
  by_cases c:n≤ts.length
  ·have:v1.length = n:=by omega
   subst this
   simp
  ·have:v2 = []:=by
    have:=r2.length
    simp only [List.length_drop] at this
    refine List.eq_nil_of_length_eq_zero ?_
    omega
   subst this
   have e0:v1.length≤n:=by omega
   simp [List.take_of_length_le e0,List.drop_eq_nil_of_le e0]
 rw [e3.1,e3.2]
 exact ⟨A1,A2,r1,r2,e2,d⟩
theorem o_ins:MutO K rIns mIns:=fun F H a vs0 xs A' vs ts B res ys e h1 h2 h3 d hm Q k => by
 unfold mIns at hm
 split at hm
 ·rename_i n t
  split at hm
  ·rename_i hz
   simp only [Bool.and_eq_true,decide_eq_true_eq] at hz
   simp only [Option.some.injEq,Prod.mk.injEq] at hm
   obtain ⟨rfl,rfl⟩:=hm
   obtain ⟨⟨z1,z2⟩,z3⟩:=hz
   cases h3 with
   | @cons v vs _ _ A B' r1 r2 nn =>
    obtain rfl:=r1.int
    cases r1 with
    | d _ =>
    obtain ⟨w,rfl,rw'⟩:=r2.one'
    obtain ⟨A1,A2,k1,k2,e2,d2⟩:=h2.takeDrop n.toNat
    subst e2
    simp only [List.nil_append] at d nn k
    refine ⟨a,vs0,n,w,rfl,rfl,h1,by rw [h2.length]; exact z1,z2,by omega,?_⟩
    have hj:=RA.join k1 (RA.cons rw' k2 fun b z1 z2 => d b (List.mem_append_right _ z2) z1) fun b y1 y2 => by
     rcases List.mem_append.mp y2 with y2 | y2
     ·exact d b (List.mem_append_left _ y1) y2
     ·exact d2 b y1 y2
    rw [List.append_assoc]
    refine k _ _ .non [] hj (.d .non) (fun b z => ?_) (by simp) (by simp)
    rcases List.mem_append.mp z with z | z
    ·exact .inl (List.mem_append_left _ z)
    ·rcases List.mem_append.mp z with z | z
     ·exact .inr z
     ·exact .inl (List.mem_append_right _ z)
  ·cases hm
 ·cases hm
end
end Hu
namespace Hu
open PySem L2
section
variable {X:Cx} {cls:Str→Addr} {W:XW} {e e2 ob:Expr} {es:List Expr} {os:List Opd} {pos p apos:Pos} {o o2:Opd} {x name:Str} {id:String} {r:V→List V→Hp→VK→Prop} {m:MutF} {i:Nat} {as:List Acc}
theorem de_mutLO (slot:Slot "list" name id) (hty:typeOf (.builtin id) = pure (.type "method_descriptor")) (hr:MtR X id r) (hm:MutO (Px X cls) r m) (hp:DP X cls ob i as)
  (h:DAs X cls W (e :: es) os) (hb:attributeBase ob name X.env (eval ob X.env) = eval ob X.env) (hl:(apos.endLine == pos.line) = true) (hf:fewC (e :: es) = true) :
  DE X cls W (.Call (.Attribute ob name apos) (e :: es) [] pos) (.val (gMutL i as ((os.map Opd.vg).map .val) m)):=by
 have hst:anyStar (e :: es) = false:=h.star
 have hst2:=hst
 simp only [anyStar,List.any_cons,Bool.or_eq_false_iff] at hst
 have ho:=h.own.pa
 rw [vals_map] at ho
 exact ⟨(pe_bm PySem.F.plainAttrs_list slot hty hr hp ho hb (few_ok hst2 hf) hl (star_cons hst.1) (star_none hst.2)).imp fun σ H Q q => mutLO_ok hm q,rfl⟩
theorem p_nm (i:Nat) (hN:X.N[i]? = some x:=by rfl) (hv:Vis X.env.scope x:=by first | exact .inl rfl | exact .inr (.inl rfl) | exact .inr (.inr rfl)) (hd:(x == ("__debug__":Str)) = false:=by decide) (hcd:(x == ("__classdict__":Str)) = false:=by decide):DP X cls (.Name x pos) i []:=dp_name hN hv hd hcd
theorem p_ix {k:Nat} (hr:Room k X.A) (hp:DP X cls ob i as) {b:Expr} {o':Opd} (hb:DE X cls Wno b o') (st:isStill o' = true:=by rfl) (hs:isSlice b = false:=by rfl):DP X cls (.Subscript ob b pos) i (as++[.ix o']):=dp_ix (hu_of hr) hp hb st hs
theorem l_app (hp:DP X cls ob i as) (he:DE X cls W e o) (hs:isStar e = false:=by rfl) (hb:attributeBase ob "append" X.env (eval ob X.env) = eval ob X.env:=by rfl) (hl:(apos.endLine == pos.line) = true:=by rfl):DE X cls W (.Call (.Attribute ob "append" apos) [e] [] pos) (.val (gMutL i as (([o].map Opd.vg).map .val) mApp)):=de_mutLO PySem.F.slot_list_append PySem.F.type_list_append mt_append o_app hp (.cons hs he .nil) hb hl rfl
theorem m_pop (i:Nat) (hN:X.N[i]? = some x:=by rfl) (hv:Vis X.env.scope x:=by first | exact .inl rfl | exact .inr (.inl rfl) | exact .inr (.inr rfl)) (hd:(x == ("__debug__":Str)) = false:=by decide) (hcd:(x == ("__classdict__":Str)) = false:=by decide) (hb:attributeBase (.Name x p) "pop" X.env (eval (.Name x p) X.env) = eval (.Name x p) X.env:=by rfl) (hl:(apos.endLine == pos.line) = true:=by rfl):DE X cls W (.Call (.Attribute (.Name x p) "pop" apos) [] [] pos) (.val (gMut i [] mPop)):=de_mut0 PySem.F.slot_list_pop PySem.F.type_list_pop mt_pop p_pop hN hv hd hcd hb hl
theorem m_popAt (i:Nat) (he:DE X cls W e o) (hs:isStar e = false:=by rfl) (hN:X.N[i]? = some x:=by rfl) (hv:Vis X.env.scope x:=by first | exact .inl rfl | exact .inr (.inl rfl) | exact .inr (.inr rfl)) (hd:(x == ("__debug__":Str)) = false:=by decide) (hcd:(x == ("__classdict__":Str)) = false:=by decide) (hb:attributeBase (.Name x p) "pop" X.env (eval (.Name x p) X.env) = eval (.Name x p) X.env:=by rfl) (hl:(apos.endLine == pos.line) = true:=by rfl):DE X cls W (.Call (.Attribute (.Name x p) "pop" apos) [e] [] pos) (.val (gMut i [o] mPopAt)):=de_mutP PySem.F.slot_list_pop PySem.F.type_list_pop mt_popAt p_popAt hN hv hd hcd (.cons hs he .nil) hb hl rfl
theorem m_ins (i:Nat) (he:DE X cls W e o) (he2:DE X cls W e2 o2) (hs:isStar e = false:=by rfl) (hs2:isStar e2 = false:=by rfl) (hN:X.N[i]? = some x:=by rfl) (hv:Vis X.env.scope x:=by first | exact .inl rfl | exact .inr (.inl rfl) | exact .inr (.inr rfl)) (hd:(x == ("__debug__":Str)) = false:=by decide) (hcd:(x == ("__classdict__":Str)) = false:=by decide) (hb:attributeBase (.Name x p) "insert" X.env (eval (.Name x p) X.env) = eval (.Name x p) X.env:=by rfl) (hl:(apos.endLine == pos.line) = true:=by rfl):DE X cls W (.Call (.Attribute (.Name x p) "insert" apos) [e,e2] [] pos) (.val (gMut i (([o,o2].map Opd.vg).map .val) mIns)):=de_mutO PySem.F.slot_list_insert PySem.F.type_list_insert mt_insert o_ins hN hv hd hcd (.cons hs he (.cons hs2 he2 .nil)) hb hl rfl
end
end Hu
namespace Hu
open PySem L2
def sBad:SG:=fun _ => .bad
section
variable {X:Cx} {cls:Str→Addr} {W:XW} {s:Stmt}
end
end Hu
namespace Hu
open PySem L2
section
variable {X:Cx} {cls:Str→Addr} {W:XW} {e a b c:Expr} {es:List Expr} {os:List Opd} {pos p p2 p3 p4 p5:Pos} {o oa ob oc:Opd} {x y z:Str} {k i:Nat}
theorem n_const {v:V} {d:D} {u:Value} (hm:X.mg x = some u) (r:RelV v u) (f:conOk v d = true) (hg:Gl X x:=by rfl) (hd:(x == ("__debug__":Str)) = false:=by decide):DE X cls W (.Name x pos) (.con v d):=⟨pe_glob hg hm r (hd:=hd),f⟩
theorem n_enum {elts:List Expr} {kk:Nat} {tpos:Pos} (hm:X.mg "enumerate" = none) (h:DE X cls W e o) (hg:Gl X "enumerate":=by rfl) (hs:isStar e = false:=by rfl):DI X cls W (.Tuple elts kk tpos) (.Call (.Name "enumerate" p) [e] [] pos) (gEnum o):=di_enum hg hm h hs
def kIsi2 (c d:Ty) (t:T):Option T:=if c = .none∨d = .none then none else (tyOf t).map fun n => .d (.bool (subTy n c||subTy n d))
theorem kit_any2 {K:PySem.W.Frag} (n c d:Ty) (hc:c≠.none) (hd:d≠.none):PySem.W.kitAny K (.type n.nm) [.type c.nm,.type d.nm] = some (subTy n c||subTy n d):=by
 simp only [PySem.W.kitAny,kit_sub n c hc,kit_sub n d hd]
 cases subTy n c <;> cases subTy n d <;> rfl
theorem n_isi2 (c1 c2:Ty) (hm:X.mg "isinstance" = none) (hmy:X.mg y = none) (hmz:X.mg z = none) (ha:DE X cls W a oa) {kk:Nat} (hs:isStar a = false:=by rfl) (hg:Gl X "isinstance":=by rfl) (hgy:Gl X y:=by rfl) (hgz:Gl X z:=by rfl) (hvy:bootBuiltins y = some (.type c1.nm):=by decide +kernel) (hvz:bootBuiltins z = some (.type c2.nm):=by decide +kernel)
  (hny:y≠"__name__":=by decide) (hdy:(y == ("__debug__":Str)) = false:=by decide) (hnz:z≠"__name__":=by decide) (hdz:(z == ("__debug__":Str)) = false:=by decide) :
  DE X cls W (.Call (.Name "isinstance" p) [a,.Tuple [.Name y p2,.Name z p3] kk p4] [] pos) (.val (gP1 (kIsi2 c1 c2) oa)):=by
 have hy:PE X (.Name y p2) (tC (.ty c1.nm)):=pe_bltn hgy hmy hvy rfl hny hdy
 have hz:PE X (.Name z p3) (tC (.ty c2.nm)):=pe_bltn hgz hmz hvz rfl hnz hdz
 have ht:PE X (.Tuple [.Name y p2,.Name z p3] kk p4) _:=pe_tup (pa_cons hy (pa_cons hz pa_nil))
 refine ⟨(pe_callB call_isiT hg hm (by decide +kernel) (pa_cons ha.1 (pa_cons ht pa_nil) (star_cons hs)) (by decide) (by decide) (star_cons hs) rfl).imp fun σ H Q q => ?_,rfl⟩
 obtain ⟨ρ,F,fp,s,q⟩:=q
 have z0:tOs (Px X cls) W [oa] σ H fun vs H1 => ∀ p,H1 p = none→rIsiT X.K (vs++[.ref p]) (upd H1 p (.tup [.ty c1.nm,.ty c2.nm])) Q:=by
  refine gOs_run (fine1 ha.2) (Ext.refl F H fp) s q fun vs xs ts ρ' F' H' fp' B s' x _ _ pr q => ?_
  unfold kP at q
  cases c:kk1 (kIsi2 c1 c2) ts with
  | none => rw [c] at q; exact q.elim
  | some t =>
   rw [c] at q
   obtain ⟨t0,rfl,h⟩:=kk1_some c
   obtain ⟨v,rfl,A,r⟩:=pairedOne pr
   unfold kIsi2 at h
   split at h
   ·cases h
   ·rename_i hn
    (simp only [Option.map_eq_some_iff] at h)
    obtain ⟨n,h1,rfl⟩:=h
    intro p n0
    have r':=r.laid (o:=.tup [.ty c1.nm,.ty c2.nm]) n0
    refine ⟨v,p,[.ty c1.nm,.ty c2.nm],.type n.nm,[.type c1.nm,.type c2.nm],_,rfl,upd_same,.cons (.ty _) (.cons (.ty _) .nil),tyOf_at (s'.sub.trans (same_upd n0)) r' h1,kit_any2 n c1 c2 (fun z => hn (.inl z)) (fun z => hn (.inr z)),?_⟩
    exact q _ F' _ fp' [] (s'.laid n0) (Tmp.frz (.bl _)) ((x.trans (Ext.laid n0 (A:=[]) (by simp))).more fun b z => by simp at z)
 refine tO_mono z0 fun v H1 w => ⟨by show 2≤sizeLine; decide,fun p n => w p n⟩
def rgOk (i j:Int):Bool:=decide (i.natAbs < 2 ^ 62)&&decide (j.natAbs < 2 ^ 62)&&decide ((j - i).toNat≤2 ^ 24)
def rgI (i:Int) (n:Nat):List Int:=(List.range n).map fun (k:Nat) => i + (k:Int)
def kLr1:List T→Option T
 | [.d (.int j)] => if rgOk 0 j = true then some (.lst ((rgI 0 j.toNat).map fun n => .d (.int n))) else none
 | _ => none
theorem fz_intsV {K:Par} {F:Hp}:∀ ns:List Int,FzA K F (ns.map V.int) (ns.map PyData.int)
 | [] => .nil
 | n :: ns => .cons (.int n) (fz_intsV ns)
theorem rg_list {K:Par} {F H:Hp} {i j:Int} {Q:VK} (e:Same F H) (ok:rgOk i j = true) (m:Mk K F H (.lst ((rgI i (j - i).toNat).map fun n => .d (.int n))) Q):RgOk i j∧∀ q,H q = none→Q (.ref q) (upd H q (.lst (rgV i j))):=by
 simp only [rgOk,Bool.and_eq_true,decide_eq_true_eq] at ok
 obtain ⟨⟨h1,h2⟩,h5⟩:=ok
 refine ⟨⟨by omega,by omega,by omega,by omega,h5⟩,?_⟩
 have e1:rgV i j = (rgI i (j - i).toNat).map V.int:=by
  unfold rgV rgI
  rw [List.map_map]
  rfl
 rw [e1]
 exact mk_list (ds:=(rgI i (j - i).toNat).map PyData.int) (by rw [List.map_map]; exact m) e (fz_intsV _)
theorem n_lr1 (hc:X.calm = true) (hm:X.mg "list" = none) (hm2:X.mg "range" = none) (ha:DE X cls W a oa) (hs:isStar a = false:=by rfl) (hg:Gl X "list":=by rfl) (hg2:Gl X "range":=by rfl) :
  DE X cls W (.Call (.Name "list" p) [.Call (.Name "range" p2) [a] [] p3] [] pos) (.val (gCall kLr1 [oa])) :=
 ⟨(pe_listRg hc hg hm (prg_1 hg2 hm2 ha.1 (star_cons hs)) rfl).imp fun σ H Q q => by
  have z:=os_pure (r:=fun vs H Q => ∃ n,vs = [V.int n]∧(RgOk 0 n∧∀ q,H q = none→Q (.ref q) (upd H q (.lst (rgV 0 n))))) (fine1 ha.2) (fun vs ts F H t e pr h Q m => by
   unfold kLr1 at h
   split at h
   ·split at h
    ·rename_i ok
     cases h
     obtain ⟨v,rfl,A,r⟩:=pairedOne pr
     rename_i j _
     refine ⟨_,by rw [r.int],rg_list (K:=Px X cls) e ok ?_⟩
     rw [Int.sub_zero]; exact m
    ·cases h
   ·cases h) q
  refine tO_mono z fun v H1 z => ?_
  obtain ⟨n,e,h⟩:=z
  cases e
  exact ⟨n,rfl,h⟩,rfl⟩
end
end Hu
namespace Hu
open PySem L2
section
variable {X:Cx} {cls:Str→Addr} {W:XW} {i:Nat}
theorem sim_frz {K:Par} {F H:Hp} {σ:St} {ρ:Rho} {fp:Nat→List Addr} {t:T} {x:D} (s:Sim K F H σ ρ fp) (h:getS ρ i = some t) (q:frzOf t = some x) :
  ∃ F1 fp1,Sim K F1 H σ (ρ.set i (some (.d x))) fp1∧∀ F0 H0 fp0,Ext F0 H0 fp0 F H fp []→Ext F0 H0 fp0 F1 H fp1 []:=by
 have hi:ρ[i]? = some (some t):=by
  unfold getS at h
  cases c:ρ[i]? with
  | none => rw [c] at h; simp at h
  | some u => rw [c] at h; simp at h; rw [h]
 have il:i < ρ.length:=(List.getElem?_eq_some_iff.mp hi).1
 obtain ⟨v,e1,r⟩:=s.sl i t hi
 have fz:=R.freeze s.sub r q (fun a z => z)
 have mem:∀ j a,a∈(if j = i then [] else fp j)→a∈fp j∧j≠i:=fun j a z => by
  by_cases c:j = i
  ·rw [if_pos c] at z; cases z
  ·rw [if_neg c] at z; exact ⟨z,c⟩
 refine ⟨Fr F H (fp i),fun j => if j = i then [] else fp j,⟨by simp [s.len],fun j u hj => ?_,fun j k n a z w => ?_,fun j a z => ?_,fun j a z => ?_,Fr.sub s.sub⟩,fun F0 H0 fp0 x0 => ⟨x0.keep,x0.fsub.trans Fr.same,fun a o z => ?_,fun a z => ?_⟩⟩
 ·by_cases c:j = i
  ·subst c
   rw [List.getElem?_set_self il] at hj
   cases hj
   exact ⟨v,e1,by rw [if_pos rfl]; exact .d fz⟩
  ·rw [List.getElem?_set_ne (Ne.symm c)] at hj
   obtain ⟨w,k1,k2⟩:=s.sl j u hj
   exact ⟨w,k1,by rw [if_neg c]; exact k2.frame Fr.same (fun _ _ z => z) fun _ _ => rfl⟩
 ·exact s.dj j k n a (mem j a z).1 (mem k a w).1
 ·obtain ⟨z1,z2⟩:=mem j a z
  cases c:Fr F H (fp i) a with
  | none => rfl
  | some o =>
   rcases Fr.inv c with k | ⟨k1,k2⟩
   ·rw [s.ff j a z1] at k; cases k
   ·obtain ⟨u,l1,l2⟩:=s.mt j a z1
    rw [k1] at l1; cases l1
    rcases k2 with k2 | k2
    ·rw [l2] at k2; cases k2
    ·exact absurd k2 (s.dj j i z2 a z1)
 ·exact s.mt j a (mem j a z).1
 ·rcases Fr.inv z with k | ⟨k1,k2⟩
  ·exact x0.fnew a o k
  ·rcases k2 with k2 | k2
   ·exact .inr (.inr (.inl k2))
   ·rcases x0.own a (.inr ⟨i,k2⟩) with w | w
    ·exact .inr (.inr (.inr w))
    ·exact .inr (.inl w)
 ·rcases z with z | ⟨j,z⟩
  ·cases z
  ·exact x0.own a (.inr ⟨j,(mem j a z).1⟩)
def frzR (i:Nat) (ρ:Rho):Rho:=match getS ρ i with
 | some t => match frzOf t with
  | some x => ρ.set i (some (.d x))
  | none => ρ
 | none => ρ
def sFz (i:Nat) (g:SG):SG:=fun ρ => match g ρ with
 | .nx ρ' => .nx (frzR i ρ')
 | o => o
theorem ds_fz {s:Stmt} {st:List Nat} {g:SG} (i:Nat) (h:DS X cls W s st g):DS X cls W s st (sFz i g):=h.imp fun D σ H q => by
 obtain ⟨ρ,F,fp,s,o⟩:=q
 refine ⟨ρ,F,fp,s,?_⟩
 unfold sFz at o
 cases c:g ρ with
 | nx ρ' =>
  rw [c] at o
  intro σ' F' H' fp' s' x a
  simp only at o
  unfold frzR at o
  cases e:getS ρ' i with
  | none => rw [e] at o; exact o σ' F' H' fp' s' x a
  | some t =>
   rw [e] at o
   simp only at o
   cases e2:frzOf t with
   | none => rw [e2] at o; exact o σ' F' H' fp' s' x a
   | some y =>
    rw [e2] at o
    obtain ⟨F1,fp1,s1,x1⟩:=sim_frz s' e e2
    exact o σ' F1 H' fp1 s1 (x1 _ _ _ x) a
 | ct ρ' => rw [c] at o; exact o
 | rt t ρ' => rw [c] at o; exact o
 | ex cc f ρ' => rw [c] at o; exact o
 | bad => rw [c] at o; exact o
end
end Hu
namespace L2
open PyProof.Rows PySem PySem.Spec
section
variable {P:Program} {w:World} {s:Shared} {A:Around} {E:Value→Shared→Prop}
set_option maxHeartbeats 3456789 in
set_option maxHeartbeats 3456789 in
end
end L2
namespace Hu
open PySem L2
section
variable {X:Cx} {cls:Str→Addr} {W:XW} {e a k v:Expr} {pos p p2 q:Pos} {o oa ok ov:Opd}
def rSetL (K:PySem.W.Frag) (w:World):List V→Hp→VK→Prop:=fun vs H Q => ∃ (l:Addr) (ns:List Int),vs = [.ref l]∧SqL K H l (ns.map V.int)∧ns.length < 64∧∀ p c,c≤ns.length→H p = none→Q (.ref p) (upd H p (SetO w p (fun j => decide (j∈ns)) c))
theorem Mk.laid {K:Par} {F H:Hp} {t:T} {Q:VK} (m:Mk K F H t Q) {p:Addr} (o:HO) (n:H p = none):Mk K F (upd H p o) t Q:=fun v H' F' A r h1 h2 h3 h4 h5 => by
 have back:∀ b,upd H p o b = none→H b = none:=fun b z => by
  by_cases c:b = p
  ·rw [c]; exact n
  ·rwa [upd_ne c] at z
 exact m v H' F' A r ((same_upd n).trans h1) h2 h3 (fun b u z => (h4 b u z).imp id fun w => w.imp (back b) id) fun b z => ⟨back b (h5 b z).1,(h5 b z).2⟩
def kD1:List T→G T
 | [kt,t] => fun ρ => match keyOf kt with
  | some k => .ok (.dK [(k,t)]) ρ
  | none => .bad
 | _ => fun _ => .bad
def gD1 (ok ov:Opd):G T:=gOs ([ok.vg,ov.vg].map Opd.val) kD1
end
end Hu
namespace Hu
open PySem L2
section
variable {X:Cx} {cls:Str→Addr} {W:XW} {e f:Expr} {oe oz:Opd} {pos p apos:Pos} {x:Str} {i:Nat} {K:Par} {F H:Hp} {σ:St} {Q:VK}
def dLook:T→T→Option (Option D)
 | .dK kvs,kt => (keyOf kt).bind fun k => match getK kvs k with
  | none => some none
  | some (.d y) => some (some y)
  | some _ => none
 | .dT kvs,kt => (tkeyOf kt).bind fun k => match getK kvs k with
  | none => some none
  | some (.d y) => some (some y)
  | some _ => none
 | _,_ => none
def isDct:Option T→Bool
 | some (.dK _) => true
 | some (.dT _) => true
 | _ => false
def dGet1:Option T→List T→Option T
 | some d,[kt] => (dLook d kt).map fun o => .d (o.getD .none)
 | _,_ => none
def dGet2:Option T→List T→Option T
 | some d,[kt,.d z] => (dLook d kt).map fun o => .d (o.getD z)
 | _,_ => none
def gDGet (kk:Option T→List T→Option T) (i:Nat) (os:List Opd):G T:=fun ρ => if isDct (getS ρ i) = true then gOs os (fun ts ρ' => match kk (getS ρ' i) ts with
  | some r => .ok r ρ'
  | none => .bad) ρ else .bad
def dSetd:Option T→List T→Option (T × T)
 | some (.dK kvs),[kt,.d z] => (keyOf kt).bind fun k => if kvs.length < sizeLine then match getK kvs k with
  | some (.d y) => some (.d y,.dK kvs)
  | some _ => none
  | none => some (.d z,.dK (putT kvs k (.d z)))
  else none
 | _,_ => none
def gSetd (i:Nat) (os:List Opd):G T:=fun ρ => if isDct (getS ρ i) = true then gOs os (fun ts ρ' => match dSetd (getS ρ' i) ts with
  | some (r,u) => .ok r (ρ'.set i (some u))
  | none => .bad) ρ else .bad
end
end Hu
namespace Hu
open PySem L2
open PyProof.Rows hiding St
structure FOk (P:Program) (w:World) (K:PySem.W.Frag) (mg:Str→Option Value) (base:Heap) (CX:CXT) (k:Nat) (f:Addr) (fd:FuncData) (ps:List Str) (sp:Sp):Prop where
 len:∀ vs H Q E,sp vs H Q E→(vs.length = ps.length)
 run:∀ (A:Around),A.guards = some []→∀ (outer:List Env) (s:Shared) (H:Hp) (args:Args) (us:List Value) (vs:List V) (Q:VK) (E:XK),Room k A→Env0 P w K mg base A outer s H→BindsTo s fd args (ps.zip us)→Vals vs us→sp vs H Q E→codeAny (model P w) A (.call (.ref f) args) (CR CX outer P w H s Q E) s
section
variable {P:Program} {w:World} {K:PySem.W.Frag} {mg:Str→Option Value} {base:Heap} {CX:CXT} {j k:Nat} {f:Addr} {fd:FuncData} {ps:List Str} {sp sp':Sp}
theorem FOk.imp (F:FOk P w K mg base CX k f fd ps sp) (h:∀ vs H Q E,sp' vs H Q E→sp vs H Q E):FOk P w K mg base CX k f fd ps sp' :=
 ⟨fun vs H Q E q => F.len vs H Q E (h _ _ _ _ q),fun A g outer s H args us vs Q E r e b v q => F.run A g outer s H args us vs Q E r e b v (h _ _ _ _ q)⟩
theorem FOk.mono (F:FOk P w K mg base CX j f fd ps sp) (h:j≤k):FOk P w K mg base CX k f fd ps sp :=
 ⟨F.len,fun A g outer s H args us vs Q E r => F.run A g outer s H args us vs Q E (r.mono h)⟩
theorem callEnd {X:Cx} {pins:List (Addr × Obj)} {σ:St} {H:Hp} {s:Shared} {Q:VK} {E:XK} (I:Inv X pins σ H s) (hx:∀ e s',CX X.stack H s E e s'→X.xe e s') {r:Result} {s':Shared} (h:CR CX X.stack X.prog X.w H s Q E r s') :
  match r with
  | .ok (.ret u) => EP X pins σ Q u s'
  | .ok _ => False
  | .error e => X.xe e s':=by
 cases r with
 | error e => exact hx e s' h
 | ok fl => cases fl with
  | ret u => exact I.after h
  | _ => exact h
theorem pe_callF {X:Cx} {E:St→XK} {x:Str} {p pos:Pos} {e:Expr} {es:List Expr} {t:TA} (F:FOk X.prog X.w X.K X.mg X.base CX k f fd ps sp) (g:X.A.guards = some []) (hr:Room k X.A) (hg:Gl X x) (hm:X.mg x = some (.ref f)) (hk:PySem.W.keepIn X.K (.ref f) = true) (hb:Binds X.K fd ps []) (hx:∀ σ,PassesAt CX X σ (E σ))
  (ha:PA X (e :: es) t) (hdb:(x == ("__debug__":Str)) = false) (he:starEach (e :: es) X.env = (false,eval e X.env) :: starEach es X.env) (hpl:(backTo pos (starEach es X.env)).any (·.1) = false) :
  PE X (.Call (.Name x p) (e :: es) [] pos) (tCallS sp E t):=⟨fun pins s σ H Q I h =>
 wpAny_Call_Name_kw (ld_glob I hg hm (PySem.W.callWith_K (h₀:=X.base) I.ok.mod.kin hk (thn (ha.run pos pins s σ H _ I h) fun us s1 ⟨vs,H1,I1,r,q⟩ => ⟨I1.kIn,by
  have hl:us.length = ps.length:=r.length.symm.trans (F.len _ _ _ _ q)
  have b:=hb s1 us I1.kIn (by simpa using hl)
  simp only [List.append_nil] at b
  refine wpAny_call (codeAny_mono (F.run X.A g X.stack s1 H1 ⟨us,[]⟩ us vs Q (E σ) hr I1.env0 b r q) fun r s' hq => ?_)
  have z:=callEnd I1 (fun e s' c => hx σ pins H1 s1 e s' I1 c) hq
  cases r with
  | error e => exact z
  | ok fl => cases fl with
   | ret u => exact z
   | _ => exact z.elim⟩) he hpl) hdb)⟩
end
section
variable {P:Program} {w:World} {K:PySem.W.Frag} {base:Heap} {mg:Str→Option Value}
theorem fo_ok {x qual:Str} {st:Stmt} {f:Addr} {fd:FuncData} {N ps:List Str} {k:Nat} {sp:Sp} {CX:CXT} (F:Fun K x qual st f fd) (S:FnScope N ps (defScope st)) (len:∀ vs H Q E,sp vs H Q E→vs.length = ps.length)
  (hbody:∀ (cdv:Value) (A:Around) (outer:List Env) (s:Shared) (H:Hp) (vs:List V) (Q:VK) (E:XK),Room k (A.deeper (envOfC qual (defScope st) s.heap.objs.size f cdv))→(A.deeper (envOfC qual (defScope st) s.heap.objs.size f cdv)).guards = some []→sp vs H Q E →
   ∃ t,PSs (cxOf CX P w K mg base N qual (defScope st) f cdv A outer s H E) (defBody st) t∧t { nx:=fun _ H' => Q .non H',rt:=Q } (L2.start N vs) H):FOk P w K mg base CX (k + 1) f fd ps sp:=by
 obtain ⟨oc,od,kV,doc,pm,an,cdv,ct,osl,rfl,lk,hcd⟩:=F.ex
 refine ⟨len,fun A g outer s H args us vs Q E hr e0 hb r hsp => ?_⟩
 have hl:=len _ _ _ _ hsp
 have stay:∀ b o,base.get? b = some o→s.heap.get? b = some o:=fun b o z => (e0.bs b o z).1
 have KX:K.In s.heap:=e0.mod.kin.keeps stay
 have lim:s.heap.NoLimit:=e0.mod.nolimit.keeps stay
 have kinds:∀ y∈ps.zip us,(defScope st).names.lookup y.1 = some .local∨((defScope st).names.lookup y.1 = some .cell∧((cellsFrom (s.heap.objs.size + 1) (defScope st).names []).lookup y.1).isSome = true):=fun y hy => by
  rcases S.par y.1 (List.of_mem_zip (a:=y.1) (b:=y.2) hy).1 with z | z
  ·left; exact z
  ·right; exact ⟨z,PySem.W.cellsFrom_some _ _ _ (.inl z)⟩
 obtain ⟨t,ht,hq⟩:=hbody cdv A outer s H vs Q E (hr.deeper _) g hsp
 refine codeAny_call_function hr.depth (KX _ _ lk) rfl S.co S.gen rfl (PySem.W.codeRec_of KX hcd) (hb _ _ _ _ (wpAny_newFunctionEnv_cells S.kind kinds fun env he s1 x => ?_))
 cases he
 have I:Inv (cxOf CX P w K mg base N qual (defScope st) f cdv A outer s H E) [] (L2.start N vs) H s1:=inv_start S hr.hd e0 hl r x
 refine ⟨lim.keeps x.toInCall.keep,codeAny_func (wpAny_mono (ht.run [] s1 (L2.start N vs) H _ I hq) (fun fl s' hs => ?_) fun e s' hs => hs)⟩
 cases fl with
 | next =>
  obtain ⟨σ',H',J,z⟩:=hs
  exact ⟨.non,H',J.os,J.bare,J.base,J.hok,rfl,z⟩
 | ret u =>
  obtain ⟨v,σ',H',J,rv,z⟩:=hs
  exact ⟨v,H',J.os,J.bare,J.base,J.hok,rv,z⟩
 | brk =>
  obtain ⟨_,_,_,z⟩:=hs
  exact (show False from z).elim
 | cont =>
  obtain ⟨_,_,_,z⟩:=hs
  exact (show False from z).elim
structure Cg (P:Program) (w:World) (K:PySem.W.Frag) (mg:Str→Option Value) (base:Heap) (k:Nat) (x:Str) (sp:Sp):Prop where
 ex:∃ (f:Addr) (fd:FuncData) (ps:List Str),FOk P w K mg base CX0 k f fd ps sp∧mg x = some (.ref f)∧PySem.W.keepIn K (.ref f) = true∧Binds K fd ps []
theorem u_call {X:Cx} {cls:Str→Addr} {W:XW} {e:Expr} {es:List Expr} {os:List Opd} {pos p:Pos} {x:Str} {k j:Nat} {fn:FnT} {io:List Bool} (m:Cg X.prog X.w X.K X.mg X.base k x (spT (Px X cls) io.length fn)) (hr:Room j X.A) (g:X.A.guards = some []) (h:DAs X cls W (e :: es) os) (hk:k≤j:=by first | exact Nat.le_refl _ | decide | omega | exact Nat.le_add_right _ _ | exact Nat.le_trans (by decide) (Nat.le_add_right _ _)) (hg:Gl X x:=by rfl) (hdb:(x == ("__debug__":Str)) = false:=by decide) :
  DE X cls W (.Call (.Name x p) (e :: es) [] pos) (.val (gUser fn io (os.map Opd.lt))):=by
 obtain ⟨f,fd,ps,F,hm,kp,b⟩:=m.ex
 have hst:anyStar (e :: es) = false:=h.star
 simp only [anyStar,List.any_cons,Bool.or_eq_false_iff] at hst
 exact ⟨(pe_callF F g (hr.mono hk) hg hm kp b (E:=fun σ => W σ) (fun σ pins H s e s' I z => (show False from z).elim) h.lt.pa hdb (star_cons hst.1) (star_none hst.2)).imp fun σ H Q q => user_ok h.lt.fine rfl q,rfl⟩
theorem law_callF {mb:Str→Option Value} {CX:CXT} {k:Nat} {fa a:Addr} {fd:FuncData} {x:Str} {sp:Sp} {s₁:Shared} {vs:List Value} {ns:List Int}
  (KX:K.In s₁.heap) (hns:s₁.heap.Ns mainGlobals mg) (hb:s₁.heap.Ns builtinsNs mb) (hbb:∀ y:Str,y≠"__name__"→mb y = bootBuiltins y) (hlim:s₁.heap.NoLimit) (hg:s₁.gens = #[]) (ha:s₁.heap.get? a = some { cls:=.type "list",data:=.seq vs.toArray }) (hi:IntsAre vs ns) (hl:ns.length≤sizeLine) (hr:Room k callerA)
  (F:∀ base:Heap,K.In base→base.Ns mainGlobals mg→FOk P w K mg base CX k fa fd [x] sp) (hbind:∀ (s:Shared) (u:Value),BindsTo s fd ⟨[u],[]⟩ [(x,u)])
  (hsp:∀ H:Hp,Only H→SqL K H a (ns.map V.int)→sp [.ref a] H (fun v _ => v = .bl true) fun _ _ _ => False) (hCX:∀ H e s',CX [] H s₁ (fun _ _ _ => False) e s'→False) :
  codeAny (model P w) callerA (.call (.ref fa) ⟨[.ref a],[]⟩) (fun u s' => u = .ok (.ret (.bool true))∧OldK s₁.heap s'.heap∧s'.os = s₁.os∧AllBare s'.gens) s₁:=by
 have rv:Vals (ns.map V.int) vs:=vals_ints hi
 have lv:vs.length = ns.length:=hi.length
 let fr:Obj:={ cls:=.type "list",data:=.seq vs.toArray }
 -- the script is one of the module's own,or it alone is tracked
 let Hs:Hp:=fun b => if b = a∧K.lookup a = none then some (.frz fr (.lst (ns.map V.int))) else none
 have only:∀ b o,Hs b = some o→b = a∧K.lookup a = none∧o = .frz fr (.lst (ns.map V.int)):=fun b o z => by
  by_cases c:b = a∧K.lookup a = none
  ·have:Hs b = some (.frz fr (.lst (ns.map V.int))):=if_pos c
   rw [this] at z
   cases z
   exact ⟨c.1,c.2,rfl⟩
  ·have:Hs b = none:=if_neg c
   rw [this] at z
   cases z
 have hO:Only Hs:=fun b => by
  cases c:Hs b with
  | none => exact .inl rfl
  | some o =>
   obtain ⟨_,_,rfl⟩:=only b o c
   exact .inr ⟨_,_,rfl⟩
 have hS:SqL K Hs a (ns.map V.int):=by
  cases hk:K.lookup a with
  | none => exact .inl (.inr ⟨fr,if_pos ⟨rfl,hk⟩⟩)
  | some o =>
   have e:=KX a o hk
   rw [ha] at e
   cases e
   exact .inr ⟨_,vs.toArray,_,hk,rfl,rfl,rfl,(by rw [List.size_toArray,lv]; exact hl),(by simpa using rv)⟩
 have hok:HOk P w Hs s₁.heap:=fun b o z => by
  obtain ⟨rfl,_,rfl⟩:=only b o z
  exact ⟨ha,(by rw [List.length_map]; exact hl),vs,_,rv,ha⟩
 have free:∀ {b:Addr} {o:Obj},s₁.heap.get? b = some o→(∀ n m,o.data≠.seq n m)∨K.lookup b = some o→Hs b = none:=fun {b o} e d => by
  cases c:Hs b with
  | none => rfl
  | some u =>
   obtain ⟨rfl,hk,_⟩:=only b u c
   rw [ha] at e
   cases e
   rcases d with d | d
   ·exact absurd rfl (d _ _)
   ·rw [hk] at d
    cases d
 have low:∀ {b:Addr} {m:Str→Option Value},s₁.heap.Ns b m→(hidT s₁.heap Hs).Ns b m:=fun {b m} z => by
  obtain ⟨o,es,ep,e,d,r⟩:=z
  exact ⟨o,es,ep,hidT_get e (free e (.inl fun n m q => by rw [d] at q; cases q)),d,r⟩
 have hKb:K.In (hidT s₁.heap Hs):=fun b o e => hidT_get (KX b o e) (free (KX b o e) (.inr e))
 have hM:Mod K mg (hidT s₁.heap Hs):=⟨hKb,low hns,⟨mb,low hb,hbb⟩,(let ⟨mc,h1,h2⟩:=hlim; ⟨mc,low h1,h2⟩)⟩
 have e0:Env0 P w K mg (hidT s₁.heap Hs) callerA [] s₁ Hs:=⟨rfl,hM,fun b o e => of_hidT e,Nat.le_of_eq (hidT_size _ _),trivial,(fun b z => by simp [frs] at z),hok,.of_eq hg⟩
 refine codeAny_mono ((F _ hKb (low hns)).run callerA rfl [] s₁ Hs ⟨[.ref a],[]⟩ [.ref a] [.ref a] _ _ hr e0 (hbind s₁ (.ref a)) (.cons rfl .nil) (hsp Hs hO hS)) fun r s' h => ?_
 cases r with
 | error e => exact (hCX Hs e s' h).elim
 | ok fl => cases fl with
  | ret u =>
   obtain ⟨v,H',os,bare,un,hok',r',q⟩:=h
   have q':v = .bl true:=q
   subst q'
   obtain rfl:u = Value.bool true:=r'
   refine ⟨rfl,OldK.of_keep fun b o e => ?_,os,bare⟩
   cases c:Hs b with
   | none => exact un.keep b o e c (fun z => by simp [frs] at z) (by simp)
   | some z =>
    obtain ⟨rfl,_,rfl⟩:=only b z c
    have z2:=hok' b _ (un.frzs b fr _ c)
    rw [ha] at e
    cases e
    exact z2.1
  | _ => exact (show False from h).elim
theorem law_spF {CX:CXT} {k:Nat} {f:Addr} {fd:FuncData} {ps:List Str} {cls:Str→Addr} {fn:FnT} (F:FOk P w K mg base CX k f fd ps (spT ⟨K,cls⟩ 1 fn)) (hk:Keeps fn):FOk P w K mg base CX k f fd ps (spLaw K) :=
 F.imp fun vs H Q E h => by
  obtain ⟨a,ns,rfl,hS,hl,hb,q⟩:=h
  obtain ⟨back,e⟩:=hk ns hl hb
  refine ⟨rfl,H,fun _ => [],[.scr ns],⟨rfl,fun i t h => ?_,fun i j n b z => by simp at z,fun i b z => by simp at z,fun i b z => by simp at z,Same.refl H⟩,?_⟩
  ·cases i with
   | zero => simp at h; subst h; exact ⟨.ref a,rfl,.scr hS⟩
   | succ i => simp at h
  ·rw [e]
   intro v F' H' fp' A s m x
   rw [m.r.bl]
   exact q H'
theorem walkF {l:PySem.W.OpenLaw} {k:Nat} {q:Program} {loose:List Str} {XP:(Str→Option Value)→Heap→Prop} {YP:World→Heap→Prop} {d:DefRec} {K:Params→PySem.W.Frag} {x:Str} (hn:l.most = some 63) (hdf:d.params.defaults = []) (hr:Room k callerA) (hY:∀ (w:World) (h:Heap),YP w h→(K w.params).In h)
  (F:∀ (w:World) (mg:Str→Option Value) (fa:Addr) (h:Heap),(K w.params).In h→h.Ns mainGlobals mg→mg d.name = some (.ref fa)→∃ fd:FuncData,(∀ (s:Shared) (u:Value),BindsTo s fd ⟨[u],[]⟩ [(x,u)])∧∀ base:Heap,(K w.params).In base→base.Ns mainGlobals mg→FOk l.prog w (K w.params) mg base CX0 k fa fd [x] (spLaw (K w.params))):PySem.W.WalkO q loose XP YP l.row.toRowW d [] (fun f vs => PySem.call f vs) :=
 Att.attach_callB hn hdf fun w s₀ s₁ mg mb fa o pm cd doc a vs ns G Y ho hd hcd hmg hobj hints hlen hbits hg =>
  let ⟨fd,hb,hF⟩:=F w mg fa _ (hY w _ Y) G.T.g hmg
  law_callF (hY w _ Y) G.T.g G.T.b G.T.builtins G.T.nolimit hg hobj hints (Nat.le_trans hlen (by decide)) hr hF hb (fun H hO hS => ⟨a,ns,rfl,hS,hlen,hbits,fun _ => rfl⟩) fun H e s' z => z
end
end Hu
namespace Hu
namespace G
open PySem L2
def methOf (s:Stmt) (j:Nat):Stmt:=match s with
 | .ClassDef _ _ _ body _ _ _ _ _ _ _ => (body.getD j (.Pass ⟨0,0,0,0⟩))
 | _ => .Pass ⟨0,0,0,0⟩
def top (i:Nat):Stmt:=PySem.Challenge.pw_huedties_k06_sides_shown.main.body.getD i (.Pass ⟨0,0,0,0⟩)
def meth (i j:Nat):Stmt:=methOf (top i) j
abbrev MkT (Kp:Prop):Prop:=∀ {P:Program} {w:World} {K:PySem.W.Frag} {h:Heap} {mg:Str→Option Value} {fa f1 f2 f3 f4 f5 f6 f7 f8 f9 f10 f11 f12 f13 f14 f15 f16 f17 f18 f19 f20 f21 f22 f23 f24 f25 f26 C_Going:Addr} (X:K.In h) (G:h.Ns mainGlobals mg) (hfa:mg "law" = some (.ref fa))
  {od1 an1 od2 an2 od3 an3 od4 an4 od5 an5 od6 an6 od7 an7 od8 an8 od9 an9 od10 an10 od11 an11 od12 an12 od13 an13 od14 an14 od15 an15 od16 an16 od17 an17 od18 an18 od19 an19 od20 an20 od21 an21 od22 an22 od23 an23 od24 an24 od25 an25 od26 an26:Option Addr} {sl1 sl2 sl3 sl4 sl5 sl6 sl7 sl8 sl9 sl10 sl11 sl12 sl13 sl14 sl15 sl16 sl17 sl18 sl19 sl20 sl21 sl22 sl23 sl24 sl25 sl26:Array (Option Value)} {oc1 kV1 dc1 pm1 cd1 ct1 oc2 kV2 dc2 pm2 cd2 ct2 oc3 kV3 dc3 pm3 cd3 ct3 oc4 kV4 dc4 pm4 cd4 ct4 oc5 kV5 dc5 pm5 cd5 ct5 oc6 kV6 dc6 pm6 cd6 ct6 oc7 kV7 dc7 pm7 cd7 ct7 oc8 kV8 dc8 pm8 cd8 ct8 oc9 kV9 dc9 pm9 cd9 ct9 oc10 kV10 dc10 pm10 cd10 ct10 oc11 kV11 dc11 pm11 cd11 ct11 oc12 kV12 dc12 pm12 cd12 ct12 oc13 kV13 dc13 pm13 cd13 ct13 oc14 kV14 dc14 pm14 cd14 ct14 oc15 kV15 dc15 pm15 cd15 ct15 oc16 kV16 dc16 pm16 cd16 ct16 oc17 kV17 dc17 pm17 cd17 ct17 oc18 kV18 dc18 pm18 cd18 ct18 oc19 kV19 dc19 pm19 cd19 ct19 oc20 kV20 dc20 pm20 cd20 ct20 oc21 kV21 dc21 pm21 cd21 ct21 oc22 kV22 dc22 pm22 cd22 ct22 oc23 kV23 dc23 pm23 cd23 ct23 oc24 kV24 dc24 pm24 cd24 ct24 oc25 kV25 dc25 pm25 cd25 ct25 oc26 kV26 dc26 pm26 cd26 ct26:Value}
  (a1:PySem.W.nsIn K mainGlobals "is_number" = some (some (.ref f1))) (l1:K.lookup f1 = some ⟨oc1,od1,.func (PySem.W.fnOf "is_number" "is_number" (defArgs (top 1)) (defBody (top 1)) (defScope (top 1)) .none kV1 dc1 pm1 an1 cd1 ct1),sl1⟩) (c1:PySem.W.codeIn K cd1 "is_number" = true) (k1:PySem.W.keepIn K (.ref f1) = true)
  (a2:PySem.W.nsIn K mainGlobals "ties_by_place" = some (some (.ref f2))) (l2:K.lookup f2 = some ⟨oc2,od2,.func (PySem.W.fnOf "ties_by_place" "ties_by_place" (defArgs (top 2)) (defBody (top 2)) (defScope (top 2)) .none kV2 dc2 pm2 an2 cd2 ct2),sl2⟩) (c2:PySem.W.codeIn K cd2 "ties_by_place" = true) (k2:PySem.W.keepIn K (.ref f2) = true)
  (a3:PySem.W.findIn K (.ref C_Going) "__init__" = some (some (.ref f3))) (l3:K.lookup f3 = some ⟨oc3,od3,.func (PySem.W.fnOf "__init__" "Going.__init__" (defArgs (meth 6 0)) (defBody (meth 6 0)) (defScope (meth 6 0)) .none kV3 dc3 pm3 an3 cd3 ct3),sl3⟩) (c3:PySem.W.codeIn K cd3 "Going.__init__" = true) (k3:PySem.W.keepIn K (.ref f3) = true) (n3:PySem.W.isFn K (.ref f3) = true)
  (a4:PySem.W.findIn K (.ref C_Going) "go_from" = some (some (.ref f4))) (l4:K.lookup f4 = some ⟨oc4,od4,.func (PySem.W.fnOf "go_from" "Going.go_from" (defArgs (meth 6 1)) (defBody (meth 6 1)) (defScope (meth 6 1)) .none kV4 dc4 pm4 an4 cd4 ct4),sl4⟩) (c4:PySem.W.codeIn K cd4 "Going.go_from" = true) (k4:PySem.W.keepIn K (.ref f4) = true) (n4:PySem.W.isFn K (.ref f4) = true)
  (a5:PySem.W.findIn K (.ref C_Going) "way_to" = some (some (.ref f5))) (l5:K.lookup f5 = some ⟨oc5,od5,.func (PySem.W.fnOf "way_to" "Going.way_to" (defArgs (meth 6 2)) (defBody (meth 6 2)) (defScope (meth 6 2)) .none kV5 dc5 pm5 an5 cd5 ct5),sl5⟩) (c5:PySem.W.codeIn K cd5 "Going.way_to" = true) (k5:PySem.W.keepIn K (.ref f5) = true) (n5:PySem.W.isFn K (.ref f5) = true)
  (a6:PySem.W.findIn K (.ref C_Going) "ring_by" = some (some (.ref f6))) (l6:K.lookup f6 = some ⟨oc6,od6,.func (PySem.W.fnOf "ring_by" "Going.ring_by" (defArgs (meth 6 3)) (defBody (meth 6 3)) (defScope (meth 6 3)) .none kV6 dc6 pm6 an6 cd6 ct6),sl6⟩) (c6:PySem.W.codeIn K cd6 "Going.ring_by" = true) (k6:PySem.W.keepIn K (.ref f6) = true) (n6:PySem.W.isFn K (.ref f6) = true)
  (a7:PySem.W.nsIn K mainGlobals "two_sides" = some (some (.ref f7))) (l7:K.lookup f7 = some ⟨oc7,od7,.func (PySem.W.fnOf "two_sides" "two_sides" (defArgs (top 7)) (defBody (top 7)) (defScope (top 7)) .none kV7 dc7 pm7 an7 cd7 ct7),sl7⟩) (c7:PySem.W.codeIn K cd7 "two_sides" = true) (k7:PySem.W.keepIn K (.ref f7) = true)
  (a8:PySem.W.nsIn K mainGlobals "are_sides" = some (some (.ref f8))) (l8:K.lookup f8 = some ⟨oc8,od8,.func (PySem.W.fnOf "are_sides" "are_sides" (defArgs (top 8)) (defBody (top 8)) (defScope (top 8)) .none kV8 dc8 pm8 an8 cd8 ct8),sl8⟩) (c8:PySem.W.codeIn K cd8 "are_sides" = true) (k8:PySem.W.keepIn K (.ref f8) = true)
  (a9:PySem.W.nsIn K mainGlobals "goes_round" = some (some (.ref f9))) (l9:K.lookup f9 = some ⟨oc9,od9,.func (PySem.W.fnOf "goes_round" "goes_round" (defArgs (top 10)) (defBody (top 10)) (defScope (top 10)) .none kV9 dc9 pm9 an9 cd9 ct9),sl9⟩) (c9:PySem.W.codeIn K cd9 "goes_round" = true) (k9:PySem.W.keepIn K (.ref f9) = true)
  (a10:PySem.W.nsIn K mainGlobals "is_ring" = some (some (.ref f10))) (l10:K.lookup f10 = some ⟨oc10,od10,.func (PySem.W.fnOf "is_ring" "is_ring" (defArgs (top 9)) (defBody (top 9)) (defScope (top 9)) .none kV10 dc10 pm10 an10 cd10 ct10),sl10⟩) (c10:PySem.W.codeIn K cd10 "is_ring" = true) (k10:PySem.W.keepIn K (.ref f10) = true)
  (a11:PySem.W.nsIn K mainGlobals "shows_sides" = some (some (.ref f11))) (l11:K.lookup f11 = some ⟨oc11,od11,.func (PySem.W.fnOf "shows_sides" "shows_sides" (defArgs (top 11)) (defBody (top 11)) (defScope (top 11)) .none kV11 dc11 pm11 an11 cd11 ct11),sl11⟩) (c11:PySem.W.codeIn K cd11 "shows_sides" = true) (k11:PySem.W.keepIn K (.ref f11) = true)
  (a12:PySem.W.nsIn K mainGlobals "_law_tape" = some (some (.ref f12))) (l12:K.lookup f12 = some ⟨oc12,od12,.func (PySem.W.fnOf "_law_tape" "_law_tape" (defArgs (top 13)) (defBody (top 13)) (defScope (top 13)) .none kV12 dc12 pm12 an12 cd12 ct12),sl12⟩) (c12:PySem.W.codeIn K cd12 "_law_tape" = true) (k12:PySem.W.keepIn K (.ref f12) = true)
  (a13:PySem.W.nsIn K mainGlobals "_law_draw" = some (some (.ref f13))) (l13:K.lookup f13 = some ⟨oc13,od13,.func (PySem.W.fnOf "_law_draw" "_law_draw" (defArgs (top 14)) (defBody (top 14)) (defScope (top 14)) .none kV13 dc13 pm13 an13 cd13 ct13),sl13⟩) (c13:PySem.W.codeIn K cd13 "_law_draw" = true) (k13:PySem.W.keepIn K (.ref f13) = true)
  (a14:PySem.W.nsIn K mainGlobals "_law_pairs_by" = some (some (.ref f14))) (l14:K.lookup f14 = some ⟨oc14,od14,.func (PySem.W.fnOf "_law_pairs_by" "_law_pairs_by" (defArgs (top 15)) (defBody (top 15)) (defScope (top 15)) .none kV14 dc14 pm14 an14 cd14 ct14),sl14⟩) (c14:PySem.W.codeIn K cd14 "_law_pairs_by" = true) (k14:PySem.W.keepIn K (.ref f14) = true)
  (a15:PySem.W.nsIn K mainGlobals "_law_web" = some (some (.ref f15))) (l15:K.lookup f15 = some ⟨oc15,od15,.func (PySem.W.fnOf "_law_web" "_law_web" (defArgs (top 16)) (defBody (top 16)) (defScope (top 16)) .none kV15 dc15 pm15 an15 cd15 ct15),sl15⟩) (c15:PySem.W.codeIn K cd15 "_law_web" = true) (k15:PySem.W.keepIn K (.ref f15) = true)
  (a16:PySem.W.nsIn K mainGlobals "_law_drawn" = some (some (.ref f16))) (l16:K.lookup f16 = some ⟨oc16,od16,.func (PySem.W.fnOf "_law_drawn" "_law_drawn" (defArgs (top 17)) (defBody (top 17)) (defScope (top 17)) .none kV16 dc16 pm16 an16 cd16 ct16),sl16⟩) (c16:PySem.W.codeIn K cd16 "_law_drawn" = true) (k16:PySem.W.keepIn K (.ref f16) = true)
  (a17:PySem.W.nsIn K mainGlobals "_law_sides" = some (some (.ref f17))) (l17:K.lookup f17 = some ⟨oc17,od17,.func (PySem.W.fnOf "_law_sides" "_law_sides" (defArgs (top 18)) (defBody (top 18)) (defScope (top 18)) .none kV17 dc17 pm17 an17 cd17 ct17),sl17⟩) (c17:PySem.W.codeIn K cd17 "_law_sides" = true) (k17:PySem.W.keepIn K (.ref f17) = true)
  (a18:PySem.W.nsIn K mainGlobals "_law_goes_round" = some (some (.ref f18))) (l18:K.lookup f18 = some ⟨oc18,od18,.func (PySem.W.fnOf "_law_goes_round" "_law_goes_round" (defArgs (top 19)) (defBody (top 19)) (defScope (top 19)) .none kV18 dc18 pm18 an18 cd18 ct18),sl18⟩) (c18:PySem.W.codeIn K cd18 "_law_goes_round" = true) (k18:PySem.W.keepIn K (.ref f18) = true)
  (a19:PySem.W.nsIn K mainGlobals "_law_is_ring" = some (some (.ref f19))) (l19:K.lookup f19 = some ⟨oc19,od19,.func (PySem.W.fnOf "_law_is_ring" "_law_is_ring" (defArgs (top 20)) (defBody (top 20)) (defScope (top 20)) .none kV19 dc19 pm19 an19 cd19 ct19),sl19⟩) (c19:PySem.W.codeIn K cd19 "_law_is_ring" = true) (k19:PySem.W.keepIn K (.ref f19) = true)
  (a20:PySem.W.nsIn K mainGlobals "_law_ring_of" = some (some (.ref f20))) (l20:K.lookup f20 = some ⟨oc20,od20,.func (PySem.W.fnOf "_law_ring_of" "_law_ring_of" (defArgs (top 21)) (defBody (top 21)) (defScope (top 21)) .none kV20 dc20 pm20 an20 cd20 ct20),sl20⟩) (c20:PySem.W.codeIn K cd20 "_law_ring_of" = true) (k20:PySem.W.keepIn K (.ref f20) = true)
  (a21:PySem.W.nsIn K mainGlobals "_law_whole" = some (some (.ref f21))) (l21:K.lookup f21 = some ⟨oc21,od21,.func (PySem.W.fnOf "_law_whole" "_law_whole" (defArgs (top 22)) (defBody (top 22)) (defScope (top 22)) .none kV21 dc21 pm21 an21 cd21 ct21),sl21⟩) (c21:PySem.W.codeIn K cd21 "_law_whole" = true) (k21:PySem.W.keepIn K (.ref f21) = true)
  (a22:PySem.W.nsIn K mainGlobals "_law_due" = some (some (.ref f22))) (l22:K.lookup f22 = some ⟨oc22,od22,.func (PySem.W.fnOf "_law_due" "_law_due" (defArgs (top 23)) (defBody (top 23)) (defScope (top 23)) .none kV22 dc22 pm22 an22 cd22 ct22),sl22⟩) (c22:PySem.W.codeIn K cd22 "_law_due" = true) (k22:PySem.W.keepIn K (.ref f22) = true)
  (a23:PySem.W.nsIn K mainGlobals "_law_odd" = some (some (.ref f23))) (l23:K.lookup f23 = some ⟨oc23,od23,.func (PySem.W.fnOf "_law_odd" "_law_odd" (defArgs (top 24)) (defBody (top 24)) (defScope (top 24)) .none kV23 dc23 pm23 an23 cd23 ct23),sl23⟩) (c23:PySem.W.codeIn K cd23 "_law_odd" = true) (k23:PySem.W.keepIn K (.ref f23) = true)
  (a24:PySem.W.nsIn K mainGlobals "_law_bent" = some (some (.ref f24))) (l24:K.lookup f24 = some ⟨oc24,od24,.func (PySem.W.fnOf "_law_bent" "_law_bent" (defArgs (top 25)) (defBody (top 25)) (defScope (top 25)) .none kV24 dc24 pm24 an24 cd24 ct24),sl24⟩) (c24:PySem.W.codeIn K cd24 "_law_bent" = true) (k24:PySem.W.keepIn K (.ref f24) = true)
  (a25:PySem.W.nsIn K mainGlobals "_law_says" = some (some (.ref f25))) (l25:K.lookup f25 = some ⟨oc25,od25,.func (PySem.W.fnOf "_law_says" "_law_says" (defArgs (top 26)) (defBody (top 26)) (defScope (top 26)) .none kV25 dc25 pm25 an25 cd25 ct25),sl25⟩) (c25:PySem.W.codeIn K cd25 "_law_says" = true) (k25:PySem.W.keepIn K (.ref f25) = true)
  (a26:PySem.W.nsIn K mainGlobals "law" = some (some (.ref f26))) (l26:K.lookup f26 = some ⟨oc26,od26,.func (PySem.W.fnOf "law" "law" (defArgs (top 27)) (defBody (top 27)) (defScope (top 27)) .none kV26 dc26 pm26 an26 cd26 ct26),sl26⟩) (c26:PySem.W.codeIn K cd26 "law" = true) (k26:PySem.W.keepIn K (.ref f26) = true)
  (z_isinstance:PySem.W.nsIn K mainGlobals "isinstance" = some none)
  (z_int:PySem.W.nsIn K mainGlobals "int" = some none)
  (z_bool:PySem.W.nsIn K mainGlobals "bool" = some none)
  (z_range:PySem.W.nsIn K mainGlobals "range" = some none)
  (z_enumerate:PySem.W.nsIn K mainGlobals "enumerate" = some none)
  (z_len:PySem.W.nsIn K mainGlobals "len" = some none)
  (z_sum:PySem.W.nsIn K mainGlobals "sum" = some none)
  (z_list:PySem.W.nsIn K mainGlobals "list" = some none)
  (z_tuple:PySem.W.nsIn K mainGlobals "tuple" = some none)
  (z_all:PySem.W.nsIn K mainGlobals "all" = some none)
  (z_any:PySem.W.nsIn K mainGlobals "any" = some none)
  (z_str:PySem.W.nsIn K mainGlobals "str" = some none)
  (z_abs:PySem.W.nsIn K mainGlobals "abs" = some none)
  (z_min:PySem.W.nsIn K mainGlobals "min" = some none)
  (z_max:PySem.W.nsIn K mainGlobals "max" = some none)
  (aC_Going:PySem.W.nsIn K mainGlobals "Going" = some (some (.ref C_Going))) (oM_Going:PySem.W.makesIn K C_Going = true) (kC_Going:PySem.W.keepIn K (.ref C_Going) = true) (oG_Going:PySem.W.plainGet K C_Going Str.empty = true) (dC_Going:PySem.W.hasDictIn K C_Going = true) (oP_Going:PySem.W.plainOver K C_Going = true) (oS_Going:PySem.W.findIn K (.ref C_Going) "__setattr__" = some (some (.builtin "object.__setattr__"))) (oN_Going_web:PySem.W.findIn K (.ref C_Going) "web" = some none) (oN_Going_by_place:PySem.W.findIn K (.ref C_Going) "by_place" = some none) (oN_Going_side:PySem.W.findIn K (.ref C_Going) "side" = some none) (oN_Going_came:PySem.W.findIn K (.ref C_Going) "came" = some none)
  {k_RING:Tok} (zc_RING:PySem.W.nsIn K mainGlobals "RING" = some (some (.str "ring" k_RING)))
  {k_SIDES:Tok} (zc_SIDES:PySem.W.nsIn K mainGlobals "SIDES" = some (some (.str "sides" k_SIDES)))
  (hk:Kp),∃ fd:FuncData,(∀ (s:Shared) (v:Value),BindsTo s fd ⟨[v],[]⟩ [("_law_script",v)])∧∀ base:Heap,K.In base→base.Ns mainGlobals mg→FOk P w K mg base CX0 8 fa fd ["_law_script"] (spLaw K)
end G
end Hu
section HuHeadS
open PySem.Calls PyProof.Rows PySem PySem.W in
local macro_rules | `(tactic| o_head $H) => `(tactic| refine HandSHeadRun.head_any (r:=HuHead.Rw) (q:=HuHead.viewQ) (H:=$H) (M:=20000) (loose:=HuHead.looseQ) (d:=HandSHeadRun.topDef HuHead.Rw.prog 27) (kwd:=[]) HuHead.obT_eq (by kernel_rfl) (fun s => by kernel_rfl) (HuHead.runs (fun w os => by kernel_rfl)) (by kernel_rfl) (by kernel_rfl) (by kernel_rfl) (by rfl) (by first | assumption | decide +kernel) (by decide +kernel) ⟨rfl,rfl,rfl,rfl,rfl,by decide +kernel⟩ ?hw ?hc)
open PySem.W PySem PyProof.Rows
set_option maxRecDepth 90000 in
set_option maxHeartbeats 0 in
theorem Hu.headT {Kp:Prop} (kp:Kp) (mk:Hu.G.MkT Kp):PySem.Challenge.rw_huedties_k06_sides_shown.Holds:=by
 w_on; o_law
 k_head; (case hw => w_witness2)
 k_fill
 refine Hu.walkF (l:=PySem.Challenge.rw_huedties_k06_sides_shown) (k:=8) (x:="_law_script") rfl rfl ⟨rfl,by decide,by decide⟩ (fun w h Y => PySem.W.kIn_of Y) ?F
 case F =>
  intro w mg fa h KX G hmg
  refine' mk KX G hmg ?a1 ?l1 ?c1 ?k1 ?a2 ?l2 ?c2 ?k2 ?a3 ?l3 ?c3 ?k3 ?n3 ?a4 ?l4 ?c4 ?k4 ?n4 ?a5 ?l5 ?c5 ?k5 ?n5 ?a6 ?l6 ?c6 ?k6 ?n6 ?a7 ?l7 ?c7 ?k7 ?a8 ?l8 ?c8 ?k8 ?a9 ?l9 ?c9 ?k9 ?a10 ?l10 ?c10 ?k10 ?a11 ?l11 ?c11 ?k11 ?a12 ?l12 ?c12 ?k12 ?a13 ?l13 ?c13 ?k13 ?a14 ?l14 ?c14 ?k14 ?a15 ?l15 ?c15 ?k15 ?a16 ?l16 ?c16 ?k16 ?a17 ?l17 ?c17 ?k17 ?a18 ?l18 ?c18 ?k18 ?a19 ?l19 ?c19 ?k19 ?a20 ?l20 ?c20 ?k20 ?a21 ?l21 ?c21 ?k21 ?a22 ?l22 ?c22 ?k22 ?a23 ?l23 ?c23 ?k23 ?a24 ?l24 ?c24 ?k24 ?a25 ?l25 ?c25 ?k25 ?a26 ?l26 ?c26 ?k26 ?z_isinstance ?z_int ?z_bool ?z_range ?z_enumerate ?z_len ?z_sum ?z_list ?z_tuple ?z_all ?z_any ?z_str ?z_abs ?z_min ?z_max ?aC_Going ?oM_Going ?kC_Going ?oG_Going ?dC_Going ?oP_Going ?oS_Going ?oN_Going_web ?oN_Going_by_place ?oN_Going_side ?oN_Going_came ?zc_RING ?zc_SIDES kp
  (case aC_Going => k_is)
  (case a1 => k_is)
  (case l1 => k_is)
  (case c1 => k_is)
  (case k1 => k_is)
  (case a2 => k_is)
  (case l2 => k_is)
  (case c2 => k_is)
  (case k2 => k_is)
  (case a3 => k_is)
  (case l3 => k_is)
  (case c3 => k_is)
  (case k3 => k_is)
  (case n3 => k_is)
  (case a4 => k_is)
  (case l4 => k_is)
  (case c4 => k_is)
  (case k4 => k_is)
  (case n4 => k_is)
  (case a5 => k_is)
  (case l5 => k_is)
  (case c5 => k_is)
  (case k5 => k_is)
  (case n5 => k_is)
  (case a6 => k_is)
  (case l6 => k_is)
  (case c6 => k_is)
  (case k6 => k_is)
  (case n6 => k_is)
  (case a7 => k_is)
  (case l7 => k_is)
  (case c7 => k_is)
  (case k7 => k_is)
  (case a8 => k_is)
  (case l8 => k_is)
  (case c8 => k_is)
  (case k8 => k_is)
  (case a9 => k_is)
  (case l9 => k_is)
  (case c9 => k_is)
  (case k9 => k_is)
  (case a10 => k_is)
  (case l10 => k_is)
  (case c10 => k_is)
  (case k10 => k_is)
  (case a11 => k_is)
  (case l11 => k_is)
  (case c11 => k_is)
  (case k11 => k_is)
  (case a12 => k_is)
  (case l12 => k_is)
  (case c12 => k_is)
  (case k12 => k_is)
  (case a13 => k_is)
  (case l13 => k_is)
  (case c13 => k_is)
  (case k13 => k_is)
  (case a14 => k_is)
  (case l14 => k_is)
  (case c14 => k_is)
  (case k14 => k_is)
  (case a15 => k_is)
  (case l15 => k_is)
  (case c15 => k_is)
  (case k15 => k_is)
  (case a16 => k_is)
  (case l16 => k_is)
  (case c16 => k_is)
  (case k16 => k_is)
  (case a17 => k_is)
  (case l17 => k_is)
  (case c17 => k_is)
  (case k17 => k_is)
  (case a18 => k_is)
  (case l18 => k_is)
  (case c18 => k_is)
  (case k18 => k_is)
  (case a19 => k_is)
  (case l19 => k_is)
  (case c19 => k_is)
  (case k19 => k_is)
  (case a20 => k_is)
  (case l20 => k_is)
  (case c20 => k_is)
  (case k20 => k_is)
  (case a21 => k_is)
  (case l21 => k_is)
  (case c21 => k_is)
  (case k21 => k_is)
  (case a22 => k_is)
  (case l22 => k_is)
  (case c22 => k_is)
  (case k22 => k_is)
  (case a23 => k_is)
  (case l23 => k_is)
  (case c23 => k_is)
  (case k23 => k_is)
  (case a24 => k_is)
  (case l24 => k_is)
  (case c24 => k_is)
  (case k24 => k_is)
  (case a25 => k_is)
  (case l25 => k_is)
  (case c25 => k_is)
  (case k25 => k_is)
  (case a26 => k_is)
  (case l26 => k_is)
  (case c26 => k_is)
  (case k26 => k_is)
  (case z_isinstance => k_is)
  (case z_int => k_is)
  (case z_bool => k_is)
  (case z_range => k_is)
  (case z_enumerate => k_is)
  (case z_len => k_is)
  (case z_sum => k_is)
  (case z_list => k_is)
  (case z_tuple => k_is)
  (case z_all => k_is)
  (case z_any => k_is)
  (case z_str => k_is)
  (case z_abs => k_is)
  (case z_min => k_is)
  (case z_max => k_is)
  (case oM_Going => k_is)
  (case kC_Going => k_is)
  (case oG_Going => k_is)
  (case dC_Going => k_is)
  (case oP_Going => k_is)
  (case oS_Going => k_is)
  (case oN_Going_web => k_is)
  (case oN_Going_by_place => k_is)
  (case oN_Going_side => k_is)
  (case oN_Going_came => k_is)
  (case zc_RING => k_is)
  (case zc_SIDES => k_is)
end HuHeadS
namespace Hu
open PySem L2
def shwOk (d:D):Bool:=d.canLay0&&decide (d.depth≤64)&&d.intsShort 40&&d.showable&&decide (d.weight≤300000)
theorem shwOk_at {d:D} (h:shwOk d = true):d.shown.length≤sizeLine∧d.showable = true∧d.canLay0 = true∧d.depth≤64:=by
 simp only [shwOk,Bool.and_eq_true,decide_eq_true_eq] at h
 obtain ⟨⟨⟨⟨h1,h2⟩,h3⟩,h4⟩,h5⟩:=h
 have h6:=PyData.shown_le 40 (by decide) d (PyData.leavesShort_of_canLay0 40 d h1 h3)
 exact ⟨(by rw [sizeLine_eq]; omega),h4,h1,h2⟩
mutual
theorem noDict_can:∀ {d:D},d.canLay0 = true→noDict d = true
 | .none,_ => rfl
 | .bool _,_ => rfl
 | .int _,_ => rfl
 | .str _,_ => rfl
 | .list xs,h => by
  simp only [noDict]
  exact noDict_canA (xs:=xs) (by simpa [PyData.canLay0] using h)
 | .tuple xs,h => by
  simp only [noDict]
  exact noDict_canA (xs:=xs) (by simpa [PyData.canLay0] using h)
 | .dict _,h => by simp [PyData.canLay0] at h
theorem noDict_canA:∀ {xs:List D},PyData.canLayAll0 xs = true→noDictA xs = true
 | [],_ => rfl
 | x :: xs,h => by
  have h':(x.canLay0 = true)∧(PyData.canLayAll0 xs = true):=by simpa [PyData.canLayAll0] using h
  simp [noDictA,noDict_can h'.1,noDict_canA h'.2]
end
def isSq:D→Bool
 | .list _ => true
 | .tuple _ => true
 | _ => false
def rStr (K:PySem.W.Frag):List V→Hp→VK→Prop:=fun vs H Q => (vs = [.non]∧Q (.str "None") H)∨(∃ b:Bool,vs = [.bl b]∧Q (.str (if b then "True" else "False")) H)∨(∃ i:Int,vs = [.int i]∧i.natAbs.log2 < 1920∧Q (.str (toString i)) H)∨(∃ z,vs = [.str z]∧Q (.str z) H)∨∃ x d,vs = [x]∧isSq d = true∧Dp K H x d∧shwOk d = true∧Q (.str d.shown) H
theorem cr_str {X:Cx} (g:X.A.guards = some []) (hu:X.A.units + 70 < cLine):CallR X (.type "str") (rStr X.K):=fun pins s σ H vs us Q I r h => by
 rcases h with ⟨rfl,q⟩ | ⟨b,rfl,q⟩ | h | h | ⟨x,d,rfl,sq,dp,ok,q⟩
 ·cases r with
  | cons r1 r2 =>
   cases r2
   rename_i u
   obtain rfl:u = Value.none:=r1
   exact PySem.P.str_of_none ⟨.str _,H,I.tok _,⟨_,rfl⟩,q⟩
 ·cases r with
  | cons r1 r2 =>
   cases r2
   rename_i u
   obtain rfl:u = Value.bool b:=r1
   exact PySem.P.str_of_bool ⟨.str _,H,I.tok _,⟨_,rfl⟩,q⟩
 ·exact call_str_int pins s σ H vs us Q I r h
 ·exact SkE.call_str_str pins s σ H vs us Q I r h
 ·obtain ⟨o1,o2,o3,o4⟩:=shwOk_at ok
  cases r with
  | cons r1 r2 =>
   rename_i u us
   cases r2
   have ha:∃ a,x = .ref a:=by
    cases dp <;> first | exact ⟨_,rfl⟩ | simp [isSq] at sq
   obtain ⟨a,rfl⟩:=ha
   obtain rfl:u = Value.ref a:=r1
   obtain ⟨as,rd⟩:=Dp.reads I d (.ref a) (.ref a) dp rfl
   exact str_of_reads rd o2 (PyData.noDict_hsm (PyData.hasDict_of_canLay d o3)) g (by omega) (fun b o z => z) (fun h' u tk hk => ⟨.str d.shown,H,I.kept hk,⟨u,rfl⟩,q⟩) o1
def kStrV (t:T):Option T:=match datOf t with
 | some .none => some (.d (.str "None"))
 | some (.bool b) => some (.d (.str (if b then "True" else "False")))
 | some (.int i) => if i.natAbs.log2 < 1920 then some (.d (.str (toString i))) else none
 | some (.str z) => some (.d (.str z))
 | some (.list xs) => if shwOk (.list xs) = true then some (.d (.str (PyData.shown (.list xs)))) else none
 | some (.tuple xs) => if shwOk (.tuple xs) = true then some (.d (.str (PyData.shown (.tuple xs)))) else none
 | _ => none
theorem datOf_int {t:T} {i:Int} (h:datOf t = some (.int i)):t = .d (.int i):=by
 cases t <;> simp [datOf] at h
 ·rw [h]
theorem datOf_non {t:T} (h:datOf t = some .none):t = .d .none:=by
 cases t <;> simp [datOf] at h
 ·rw [h]
theorem datOf_bl {t:T} {b:Bool} (h:datOf t = some (.bool b)):t = .d (.bool b):=by
 cases t <;> simp [datOf] at h
 ·rw [h]
theorem datOf_str {t:T} {i:Str} (h:datOf t = some (.str i)):t = .d (.str i):=by
 cases t <;> simp [datOf] at h
 ·rw [h]
theorem p_str {K:Par}:PureN K (rStr K.K) (kk1 kStrV):=fun vs ts F H t e p q Q m => by
 obtain ⟨a,rfl,c0⟩:=kk1_some q
 obtain ⟨v,rfl,A,r⟩:=pairedOne p
 unfold kStrV at c0
 split at c0
 ·rename_i h
  cases c0
  have:=datOf_non h
  subst this
  rw [r.non]
  exact .inl ⟨rfl,mk_scal m e (.str _)⟩
 ·rename_i b h
  cases c0
  have:=datOf_bl h
  subst this
  rw [r.bl]
  exact .inr (.inl ⟨b,rfl,mk_scal m e (.str _)⟩)
 ·rename_i i h
  split at c0
  ·cases c0
   have:=datOf_int h
   subst this
   rw [r.int]
   exact .inr (.inr (.inl ⟨i,rfl,by assumption,mk_scal m e (.str _)⟩))
  ·cases c0
 ·rename_i z h
  cases c0
  have:=datOf_str h
  subst this
  rw [r.str]
  exact .inr (.inr (.inr (.inl ⟨z,rfl,mk_scal m e (.str _)⟩)))
 ·rename_i xs h
  split at c0
  ·rename_i ok
   cases c0
   exact .inr (.inr (.inr (.inr ⟨v,_,rfl,rfl,datOf_dp e r h (noDict_can (shwOk_at ok).2.2.1),ok,mk_scal m e (.str _)⟩)))
  ·cases c0
 ·rename_i xs h
  split at c0
  ·rename_i ok
   cases c0
   exact .inr (.inr (.inr (.inr ⟨v,_,rfl,rfl,datOf_dp e r h (noDict_can (shwOk_at ok).2.2.1),ok,mk_scal m e (.str _)⟩)))
  ·cases c0
 ·cases c0
section
variable {X:Cx} {cls:Str→Addr} {W:XW} {a:Expr} {oa:Opd} {pos p:Pos} {k:Nat}
theorem n_str (hr:Room k X.A) (g:X.A.guards = some []) (hm:X.mg "str" = none) (ha:DE X cls W a oa) (hs:isStar a = false:=by rfl) (hg:Gl X "str":=by rfl):DE X cls W (.Call (.Name "str" p) [a] [] pos) (.val (gCall (kk1 kStrV) [oa])):=de_callT (cr_str g (by have:=hr.un; omega)) p_str hg hm (by decide +kernel) (.cons hs ha .nil) (by decide) (by decide)
end
end Hu
namespace Hu
open PySem L2
section
variable {X:Cx} {cls:Str→Addr} {W:XW} {K:Par} {a:Expr} {oa:Opd}
theorem FzA.reverse {F:Hp}:∀ {vs:List V} {xs:List D},FzA K F vs xs→FzA K F vs.reverse xs.reverse
 | _,_,.nil => .nil
 | _,_,.cons h1 h2 => by
  rw [List.reverse_cons,List.reverse_cons]
  exact FzA.append (FzA.reverse h2) (.cons h1 .nil)
def kRevL (t:T):Option T:=(listOf t).map fun ds => .lst (ds.reverse.map T.d)
def rRevL (K:PySem.W.Frag):List V→Hp→VK→Prop:=fun vs H Q => ∃ a xs,vs = [.ref a]∧SqL K H a xs∧∀ p,H p = none→Q (.ref p) (upd H p (.lst xs.reverse))
theorem p_revL:PureN K (rRevL K.K) (kk1 kRevL):=fun vs ts F H t e p q Q m => by
 obtain ⟨a,rfl,c0⟩:=kk1_some q
 obtain ⟨v,rfl,A,r⟩:=pairedOne p
 simp only [kRevL,Option.map_eq_some_iff] at c0
 obtain ⟨ds,h,rfl⟩:=c0
 obtain ⟨a,vs,rfl,ha,fz⟩:=listOf_at e r h
 exact ⟨a,vs,rfl,.of ha,mk_list m e fz.reverse⟩
theorem n_revL {k:Nat} {p1 p2 p3 pos:Pos} (ha:DE X cls W a oa):DE X cls W (.Subscript a (.Slice none none (some (.UnaryOp .USub (.Constant (.int 1) k p1) p2)) p3) pos) (.val (gCall (kk1 kRevL) [oa])) :=
 ⟨(pe_revL ha.1).imp fun σ H Q q => by
  have z:=os_pure (r:=rRevL X.K) (fine1 ha.2) (p_revL (K:=Px X cls)) q
  refine tO_mono z fun v H1 z => ?_
  obtain ⟨b,xs,e,h1,h2⟩:=z
  cases e
  exact ⟨b,xs,rfl,h1,h2⟩,rfl⟩
end
def sPutT (i:Nat) (ob:Opd) (t:T) (k:SG):SG:=fun ρ1 => match getS ρ1 i with
 | none => .bad
 | some _ => (gOs [ob] (fun ts ρ2 => match putA t (getS ρ2 i) ts with
  | some u => .ok () (ρ2.set i (some u))
  | none => .bad) ρ1).s fun _ ρ3 => k ρ3
def sPut2 (i j:Nat) (oi oj:Opd) (g:G T):SG:=fun ρ => (g ρ).s fun t ρ1 => match t with
 | .d (.tuple [x,y]) => sPutT i oi (.d x) (sPutT j oj (.d y) fun ρ2 => .nx ρ2) ρ1
 | _ => .bad
theorem putT_run {K:Par} {W:XW} {F H F0 H0:Hp} {σ:St} {ρ:Rho} {fp fp0:Nat→List Addr} {st:List Nat} {D:Ends} {i:Nat} {ob:Opd} {v:V} {x:PyData} {k:SG} (hf:ob.fine = true) (s:Sim K F H σ ρ fp) (x0:Ext F0 H0 fp0 F H fp []) (fz:Fz K F v x) (o:OutS K W st F0 H0 σ fp0 D (sPutT i ob (.d x) k ρ)) :
  ∃ u0,σ[i]? = some (some u0)∧tO K W ob σ H fun w H2 => rSetA u0 w v H2 fun H3 => ∃ ρ3 F3 fp3,Same F F3∧Sim K F3 H3 σ ρ3 fp3∧Ext F0 H0 fp0 F3 H3 fp3 []∧OutS K W st F0 H0 σ fp0 D (k ρ3):=by
 unfold sPutT at o
 cases c0:getS ρ i with
 | none => rw [c0] at o; exact o.elim
 | some t0 =>
 rw [c0] at o
 obtain ⟨u0,hu0,_⟩:=s.sl i t0 (Hu.getS_some c0)
 refine ⟨u0,hu0,tC_at ?_⟩
 refine gOs_run (fine1 hf) x0 s o.run fun vs xs ts ρ2 F2 H2 fp2 B s2 x2 ar fi pr q => ?_
 clear fi
 cases c2:putA (.d x) (getS ρ2 i) ts with
 | none => rw [c2] at q; exact q.elim
 | some u =>
  rw [c2] at q
  have hts:∃ tw,ts = [tw]:=by
   unfold putA at c2
   split at c2
   ·exact ⟨_,rfl⟩
   ·exact ⟨_,rfl⟩
   ·exact ⟨_,rfl⟩
   ·cases c2
  obtain ⟨tw,rfl⟩:=hts
  obtain ⟨w,rfl,Aw,rw'⟩:=pairedOne pr
  cases c3:getS ρ2 i with
  | none => rw [c3] at c2; simp [putA] at c2
  | some t1 =>
   rw [c3] at c2
   have m2:Tmp K F2 H2 fp2 v (.d x) []:=Tmp.frz (fz.mono x2.fsub)
   obtain ⟨H3,fp3,hr,s3,x3⟩:=putA_at s2 ((x0.trans x2).more fun b z => absurd z (by simp)) hu0 (Hu.getS_some c3) m2 rw' c2
   have fin:∃ ρ3 F3 fp3,Same F F3∧Sim K F3 H3 σ ρ3 fp3∧Ext F0 H0 fp0 F3 H3 fp3 []∧OutS K W st F0 H0 σ fp0 D (k ρ3):=⟨_,F2,fp3,x2.fsub,s3,x3,q⟩
   refine ⟨w,rfl,?_⟩
   rcases hr with hr | hr
   ·obtain ⟨p',xs',k',j',e1,e2,e3,e4,e5⟩:=hr
    exact .inl ⟨p',xs',k',j',e1,e2,e3,e4,by rw [e5]; exact fin⟩
   ·obtain ⟨a',H',e1,e2,e3⟩:=hr
    exact .inr ⟨a',H',e1,e2,by rw [e3]; exact fin⟩
section
variable {X:Cx} {cls:Str→Addr} {W:XW} {e b c:Expr} {pos p p2 p3 p4 pt:Pos} {ob oc o:Opd} {x y:Str} {kk:Nat}
theorem s_put2 (i j:Nat) {k:Nat} (hr:Room k X.A) (he:DE X cls W e o) (hb:DE X cls W b ob) (hcj:DE X cls W c oc) (hc:X.calm = true:=by rfl)
  (hN:X.N[i]? = some x:=by rfl) (hv:Vis X.env.scope x:=by first | exact .inl rfl | exact .inr (.inl rfl) | exact .inr (.inr rfl)) (hd:(x == ("__debug__":Str)) = false:=by decide) (hcd:(x == ("__classdict__":Str)) = false:=by decide)
  (hN2:X.N[j]? = some y:=by rfl) (hv2:Vis X.env.scope y:=by first | exact .inl rfl | exact .inr (.inl rfl) | exact .inr (.inr rfl)) (hd2:(y == ("__debug__":Str)) = false:=by decide) (hcd2:(y == ("__classdict__":Str)) = false:=by decide)
  (ha1:∀ v,assign (.Subscript (.Name x p) b p2) X.env v = (do let ov ← holding [v] (eval (.Name x p) X.env); let iv ← holding [v,ov] (eval b X.env); standAt p2; holding [v,ov,iv] (setItem ov iv v); release [v,ov,iv] []):=by intro _; rfl)
  (ha2:∀ v,assign (.Subscript (.Name y p3) c p4) X.env v = (do let ov ← holding [v] (eval (.Name y p3) X.env); let iv ← holding [v,ov] (eval c X.env); standAt p4; holding [v,ov,iv] (setItem ov iv v); release [v,ov,iv] []):=by intro _; rfl)
  (hs:swapsWithSole [.Tuple [.Subscript (.Name x p) b p2,.Subscript (.Name y p3) c p4] kk pt] e pos.line X.env = pure false:=by rfl) (hw:swappedStores [.Tuple [.Subscript (.Name x p) b p2,.Subscript (.Name y p3) c p4] kk pt] e X.env = pure none:=by rfl) :
  DS X cls W (.Assign [.Tuple [.Subscript (.Name x p) b p2,.Subscript (.Name y p3) c p4] kk pt] e pos) [] (sPut2 i j ob oc o.vg):=by
 have g1:=pg_sub (X:=X) (pos:=p2) (pe_var (pos:=p) hN hv hd hcd) hb.1 (set_any (hu_of hr)) ha1
 have g2:=pg_sub (X:=X) (pos:=p4) (pe_var (pos:=p3) hN2 hv2 hd2 hcd2) hcj.1 (set_any (hu_of hr)) ha2
 refine (ps_asg he.own (pg_tup hc (pgs_cons g1 (pgs_cons g2 pgs_nil))) hs hw).imp fun D σ H q => ?_
 obtain ⟨ρ,F,fp,s,q⟩:=q
 refine ⟨ρ,F,fp,s,q.run.imp (Ext.refl F H fp) fun t ρ1 _ q v F1 H1 fp1 A s1 m x1 => ?_⟩
 split at q
 ·rename_i d1 d2
  have fz:=m.r.fz
  cases fz with
  | @tup a vs _ h1 h2 =>
   cases h2 with
   | @cons v1 _ _ _ z1 z2 =>
    cases z2 with
    | @cons v2 _ _ _ z2 z3 =>
     cases z3
     refine ⟨a,[v1,v2],rfl,.of (s1.sub _ _ h1),rfl,v1,[v2],rfl,?_⟩
     obtain ⟨u1,hu1,k1⟩:=putT_run hb.2 s1 x1.nil z1 q
     refine ⟨u1,hu1,tO_mono k1 fun w H2 k1 => ?_⟩
     have mono:∀ {P P':Hp→Prop},(∀ H,P H→P' H)→rSetA u1 w v1 H2 P→rSetA u1 w v1 H2 P':=fun i z => by
      rcases z with ⟨p',xs',k',j',e1,e2,e3,e4,e5⟩ | ⟨a',H',e1,e2,e3⟩
      ·exact .inl ⟨p',xs',k',j',e1,e2,e3,e4,i _ e5⟩
      ·exact .inr ⟨a',H',e1,e2,i _ e3⟩
     refine mono (fun H3 z => ?_) k1
     obtain ⟨ρ3,F3,fp3,fs,s3,x3,o3⟩:=z
     obtain ⟨u2,hu2,k2⟩:=putT_run hcj.2 s3 x3 (z2.mono fs) o3
     refine ⟨v2,[],rfl,u2,hu2,tO_mono k2 fun w2 H4 k2 => ?_⟩
     have mono2:∀ {P P':Hp→Prop},(∀ H,P H→P' H)→rSetA u2 w2 v2 H4 P→rSetA u2 w2 v2 H4 P':=fun i z => by
      rcases z with ⟨p',xs',k',j',e1,e2,e3,e4,e5⟩ | ⟨a',H',e1,e2,e3⟩
      ·exact .inl ⟨p',xs',k',j',e1,e2,e3,e4,i _ e5⟩
      ·exact .inr ⟨a',H',e1,e2,i _ e3⟩
     refine mono2 (fun H5 z => ?_) k2
     obtain ⟨ρ5,F5,fp5,_,s5,x5,o5⟩:=z
     exact ⟨rfl,o5 σ F5 H5 fp5 s5 x5 (Ag.refl _ _)⟩
 ·exact q.elim
end
end Hu
namespace Hu
open PySem L2
def kEqS (neg:Bool) (a b:T):Option T:=match a,b with
 | .d (.str x),.d (.str y) => some (.d (.bool (if neg then !decide (x = y) else decide (x = y))))
 | _,_ => none
theorem p_eqS {K:Par}:Pure2 K rEq (kEqS false):=fun x y tx ty Ax Ay F H t e r1 r2 q Q m => by
 unfold kEqS at q
 split at q
 ·rename_i a b
  cases q
  rw [r1.str,r2.str]
  have:=mk_scal m e (.bl _)
  refine ⟨rfl,?_⟩
  simpa using this
 ·cases q
section
variable {X:Cx} {cls:Str→Addr} {W:XW} {a b:Expr} {oa ob:Opd} {pos:Pos}
theorem v_eqS (ha:DE X cls W a oa) (hb:DE X cls W b ob):DE X cls W (.Compare a [.Eq] [b] pos) (.val (gP2 (kEqS false) oa ob)):=de_cmp op_eq (nomark b) p_eqS ha hb
end
end Hu
namespace Hu
open PySem L2
def fzT (t:T):T:=match frzOf t with
 | some x => .d x
 | none => t
def gFzE (g:G T):G T:=fun ρ => (g ρ).bind fun t ρ' => .ok (fzT t) ρ'
theorem tmp_frz {K:Par} {F H F' H':Hp} {σ:St} {ρ':Rho} {fp fp':Nat→List Addr} {A:List Addr} {v:V} {t:T} {x:PyData} (s:Sim K F' H' σ ρ' fp') (m:Tmp K F' H' fp' v t A) (x0:Ext F H fp F' H' fp' A) (q:frzOf t = some x) :
  ∃ F1,Sim K F1 H' σ ρ' fp'∧Tmp K F1 H' fp' v (.d x) []∧Ext F H fp F1 H' fp' []:=by
 refine ⟨Fr F' H' A,⟨s.len,fun i u hi => ?_,s.dj,fun i a z => ?_,s.mt,Fr.sub s.sub⟩,Tmp.frz (R.freeze s.sub m.r q fun a z => z),⟨x0.keep,x0.fsub.trans Fr.same,fun a o z => ?_,fun a z => ?_⟩⟩
 ·obtain ⟨w,k1,k2⟩:=s.sl i u hi
  exact ⟨w,k1,k2.frame Fr.same (fun _ _ z => z) fun _ _ => rfl⟩
 ·cases c:Fr F' H' A a with
  | none => rfl
  | some o =>
   rcases Fr.inv c with k | ⟨k1,k2⟩
   ·rw [s.ff i a z] at k; cases k
   ·obtain ⟨u,l1,l2⟩:=s.mt i a z
    rw [k1] at l1; cases l1
    rcases k2 with k2 | k2
    ·rw [l2] at k2; cases k2
    ·exact absurd z (m.dj a k2 i)
 ·rcases Fr.inv z with k | ⟨k1,k2⟩
  ·exact x0.fnew a o k
  ·rcases k2 with k2 | k2
   ·exact .inr (.inr (.inl k2))
   ·rcases x0.own a (.inl k2) with w | w
    ·exact .inr (.inr (.inr w))
    ·exact .inr (.inl w)
 ·rcases z with z | z
  ·cases z
  ·exact x0.own a (.inr z)
section
variable {X:Cx} {cls:Str→Addr} {W:XW} {e:Expr} {o:Opd}
theorem n_fz (h:DE X cls W e o):DE X cls W e (.val (gFzE o.vg)) :=
 ⟨h.own.imp fun σ H Q q => by
  obtain ⟨ρ,F,fp,s,q⟩:=q
  refine ⟨ρ,F,fp,s,q.bind.imp (Ext.refl F H fp) fun t ρ' _ p v F' H' fp' A s' m x => ?_⟩
  have p:Post (Px X cls) F H σ fp Q (fzT t) ρ':=p
  unfold fzT at p
  cases c:frzOf t with
  | none => rw [c] at p; exact p v F' H' fp' A s' m x
  | some d =>
   rw [c] at p
   obtain ⟨F1,s1,m1,x1⟩:=tmp_frz s' m x c
   exact p v F1 H' fp' [] s1 m1 x1,rfl⟩
end
end Hu
namespace Hu
open PySem L2
def mulS (z:Str) (k:Nat):Str:=if (k:Int) < 1 then Str.empty else if ((k:Int) == 1||z.length == 0) = true then z else ⟨(List.replicate (k:Int).toNat z.cps).foldl (·++·) #[]⟩
def kMulS (a b:T):Option T:=match a,b with
 | .d (.str z),.d (.int k) => if decide (0≤k)&&decide (k≤1000)&&decide (z.length≤1000)&&decide ((mulS z k.toNat).length≤sizeLine) then some (.d (.str (mulS z k.toNat))) else none
 | _,_ => none
section
variable {X:Cx} {cls:Str→Addr} {W:XW} {a b:Expr} {oa ob:Opd} {pos:Pos}
end
end Hu
namespace L2
open PyProof.Rows PySem PySem.Spec
section
variable {kvs:List (Key × V)} {a:Addr} {X:Cx} {pins:List (Addr × Obj)} {σ:St} {H:Hp} {s:Shared} {A:Around} {E:Value→Shared→Prop}
end
section
variable {td ty tx:TE} {X:Cx} {o e f:Expr} {apos cpos:Pos}
end
end L2
namespace Hu
open PySem L2
section
variable {X:Cx} {cls:Str→Addr} {W:XW} {e f:Expr} {oe oz:Opd} {pos p apos:Pos} {x:Str} {i:Nat} {K:Par} {F H:Hp} {σ:St} {Q:VK}
def dGet1N:Option T→List T→Option T
 | some (.dK _),[.d .none] => some (.d .none)
 | d,ts => dGet1 d ts
end
end Hu
namespace Hu
open PySem L2
section
variable {X:Cx}
end
section
variable {X:Cx} {cls:Str→Addr} {W:XW} {a b:Expr} {pos p kp:Pos} {oa ob:Opd} {k:Nat}
end
end Hu
namespace Hu
open PySem L2
open PyProof.Rows hiding St
def fnN (fn:FnT):FnT:=fun ts => match fn ts with
 | .ret t back => .ret t back
 | _ => .bad
section
variable {P:Program} {w:World} {K:PySem.W.Frag} {mg:Str→Option Value} {base:Heap} {k:Nat} {f:Addr} {fd:FuncData} {ps:List Str} {cls:Str→Addr} {n:Nat} {fn:FnT} {x:Str}
theorem spT_N {K:Par} {vs:List V} {H:Hp} {Q:VK} {E E':XK} (h:spT K n (fnN fn) vs H Q E):spT K n fn vs H Q E':=by
 obtain ⟨hl,F,fp,ts,s,o⟩:=h
 refine ⟨hl,F,fp,ts,s,?_⟩
 unfold fnN at o
 cases e:fn ts with
 | ret t back => rw [e] at o; exact o
 | ex c f back => rw [e] at o; exact o.elim
 | bad => rw [e] at o; exact o.elim
theorem FOk.never (F:FOk P w K mg base (CX P w) k f fd ps (spT ⟨K,cls⟩ n fn)):FOk P w K mg base CX0 k f fd ps (spT ⟨K,cls⟩ n (fnN fn)) :=
 ⟨fun vs H Q E q => F.len vs H Q E (spT_N q),fun A g outer s H args us vs Q E r e b v q => codeAny_mono (F.run A g outer s H args us vs Q (fun _ _ _ => False) r e b v (spT_N q)) fun r s' hq => by
  cases r with
  | error e =>
   obtain ⟨_,_,_,_,_,_,_,_,_,_,_,_,z⟩:=hq
   exact z.elim
  | ok fl => cases fl <;> exact hq⟩
structure Cgx (P:Program) (w:World) (K:PySem.W.Frag) (mg:Str→Option Value) (base:Heap) (k:Nat) (x:Str) (sp:Sp):Prop where
 ex:∃ (f:Addr) (fd:FuncData) (ps:List Str),FOk P w K mg base (CX P w) k f fd ps sp∧mg x = some (.ref f)∧PySem.W.keepIn K (.ref f) = true∧Binds K fd ps []
theorem Cgx.never (m:Cgx P w K mg base k x (spT ⟨K,cls⟩ n fn)):Cg P w K mg base k x (spT ⟨K,cls⟩ n (fnN fn)):=by
 obtain ⟨f,fd,ps,F,h1,h2,h3⟩:=m.ex
 exact ⟨f,fd,ps,F.never,h1,h2,h3⟩
end
def sRaise (c:Str):SG:=fun ρ => .ex c none ρ
structure ExF (K:PySem.W.Frag) (mg:Str→Option Value) (cls:Str→Addr) (c:Str):Prop where
 g:mg c = some (.ref (cls c))
 q:PySem.W.excIn K (cls c) [.type "ValueError",.type "Exception",.type "BaseException",.type "object"] "ValueError.__new__" = true
 kp:PySem.W.keepIn K (.ref (cls c)) = true
 sb:PySem.W.subIn K (.ref (cls c)) (.type "BaseException") = some true
 ty:PySem.W.typeIn K (.ref (cls c)) = some (.type "type")
section
variable {X:Cx} {cls:Str→Addr} {W:XW} {x m:Str} {j:Nat} {p p2 pos pos':Pos}
end
end Hu
namespace Hu
open PySem L2
open PyProof.Rows hiding St
section
variable {X:Cx} {pins:List (Addr × Obj)} {σ:St} {H:Hp} {s:Shared} {a:Addr} {oe:Obj}
structure Air (X:Cx) (pins:List (Addr × Obj)) (a:Addr):Prop where
 old:X.s_0.heap.get? a = none
 pin:∀ p,p∈X.pn++pins→p.1≠a
 loc:a≠X.env.locals
 fs:a∉X.fs
variable {B h:Heap} {sI s':Shared} {c:Value} {d:Option Addr}
theorem ground (J:Inv X pins σ H sI) (nb:∀ b o,sI.heap.get? b = some o→b∉frs X.stack→B.get? b = some o) (fl:HandSPX.FlyingZ B (X.env :: X.outer) a (Zc c d) h) (up:sI.heap.UpToSlots h) (os:s'.os = sI.os) (ag:AllBare s'.gens) (na:H a = none) (ar:Air X pins a) :
  ∃ u,h.get? a = some u∧Zc c d u∧(∃ vs,u.data = .fields vs)∧Inv X pins σ H { s' with heap:=h }∧Inv (X.suite a ((a,u) :: (X.pn++pins))) [] σ H { s' with heap:=h }:=by
 have ⟨u,vs,e1,e2,e3⟩:=fl.there
 have K:=J.landed (s':={ s' with heap:=h }) nb fl.1 up os ag
 exact ⟨u,e1,e2,⟨vs,e3⟩,K,K.suite e1 e3 na ar.loc ar.fs⟩
end
section
variable {X:Cx} {x n:Str} {C:Value} {i:Nat} {body suite:List Stmt} {b₀:Stmt} {np pos pos':Pos} {tb:WX→TS} {ts:Addr→Value→Option Addr→TS}
end
end Hu
namespace Hu
open PySem L2
open PyProof.Rows hiding St
section
variable {K:Par} {F H F' H':Hp} {σ σ':St} {ρ ρ1:Rho} {fp fp':Nat→List Addr} {A:List Addr} {c:Str} {d:Option Addr} {f:Option (Str × T)} {g:Option (Str × D)} {a:Addr}
end
section
variable {X:Cx} {cls:Str→Addr} {W:XW} {x n m:Str} {np pos pos' p q r:Pos} {i j:Nat} {st:List Nat} {g:SG} {body:List Stmt} {yes:Str→Bool} {C:Value}
end
abbrev ExC (K:PySem.W.Frag) (D:Addr):Prop:=L2.ExcC K D
inductive IsX (K:PySem.W.Frag) (H:Hp):V→Value→Prop where
 | non:IsX K H .non (.type "NoneType")
 | exc {a D:Addr} {d:Option Addr}:H a = some (ExK (.ref D) d a)→(d = none∨∃ dd fs,d = some dd∧H dd = some (.xd fs))→ExC K D→IsX K H (.ref a) (.ref D)
section
variable {X:Cx}
end
inductive ClN (X:Cx):Str→V→Value→Prop
 | own {y:Str} {C:Addr} (hg:Gl X y) (hm:X.mg y = some (.ref C)) (hd:(y == ("__debug__":Str)) = false):ClN X y (.ref C) (.ref C)
 | ty {y:Str} {n:String} (hg:Gl X y) (hm:X.mg y = none) (hv:bootBuiltins y = some (.type n)) (hn:y≠"__name__") (hd:(y == ("__debug__":Str)) = false):ClN X y (.ty n) (.type n)
theorem ClN.pe {X:Cx} {y:Str} {v:V} {u:Value} {p:Pos} (h:ClN X y v u):PE X (.Name y p) (tC v):=by
 cases h with
 | own hg hm hd => exact pe_glob hg hm rfl hd
 | ty hg hm hv hn hd => exact pe_bltn hg hm hv rfl hn hd
theorem ClN.clsV {X:Cx} {y:Str} {v:V} {u:Value} (h:ClN X y v u):ClsV v u:=by
 cases h with
 | own => exact .own _
 | ty => exact .ty _
inductive ClNs (X:Cx):List Expr→List V→List Value→Prop
 | nil:ClNs X [] [] []
 | cons {y:Str} {p:Pos} {v:V} {u:Value} {es:List Expr} {vs:List V} {us:List Value} (h:ClN X y v u) (r:ClNs X es vs us):ClNs X (.Name y p :: es) (v :: vs) (u :: us)
theorem ClNs.pa {X:Cx}:∀ {es:List Expr} {vs:List V} {us:List Value},ClNs X es vs us→PA X es (fun σ H Q => Q vs H)
 | _,_,_,.nil => pa_nil
 | _,_,_,.cons h r => (pa_cons h.pe (ClNs.pa r) (star_cons rfl)).imp fun σ H Q q => q
theorem ClNs.all {X:Cx}:∀ {es:List Expr} {vs:List V} {us:List Value},ClNs X es vs us→Paired ClsV vs us
 | _,_,_,.nil => .nil
 | _,_,_,.cons h r => .cons h.clsV (ClNs.all r)
theorem ClNs.star {X:Cx}:∀ {es:List Expr} {vs:List V} {us:List Value},ClNs X es vs us→anyStar es = false
 | _,_,_,.nil => rfl
 | _,_,_,.cons h r => by
  have:=ClNs.star r
  simp only [anyStar,List.any_cons,Bool.or_eq_false_iff] at this ⊢
  exact ⟨rfl,this⟩
section
variable {X:Cx} {cls:Str→Addr} {W:XW} {a:Expr} {oa:Opd} {p p2 p3 p4 pos:Pos} {y:Str} {v:V} {u:Value} {es:List Expr} {vs:List V} {us:List Value} {f:Str→Option Bool} {kk:Nat}
end
section
variable {K:PySem.W.Frag} {c y:Addr} {t:Value} {T:String} {r:List Value} {b:Bool}
end
def clsOf (l:List (Str × Addr)) (c:Str):Addr:=((l.find? fun p => p.1 == c).map (·.2)).getD 0
example (a b:Addr):clsOf [("NoPlace",a),("NoTie",b)] "NoTie" = b:=rfl
end Hu
namespace Hu
open PySem L2
abbrev Spl:=Nat→T→Option (D × T × (T→T))
structure Md (K:Par) (n j:Nat) (tgt:TG) (J:Addr→It) (sp:Spl):Prop where
 go:∀ {a k H vs},SqL K.K H a vs→k < vs.length→(J a).go k H
 stop:∀ {a k H vs},SqL K.K H a vs→vs.length≤k→(J a).stop k H
 turn:∀ {a k F H v t A vs x H' d u bk},(J a).yld k H x H'→SqL K.K H a vs→vs[k]? = some v→sp k t = some (d,u,bk)→Same F H→R K F H v t A →
  ∃ vn w,Same H H'∧Fz K F vn d∧R K F H' w u A∧(∀ σ Q,Q ((σ.set n (some vn)).set j (some w)) H'→tgt x σ H' Q)∧∀ {F3 H3 u' A'},Same F F3→TupSub H' H3→R K F3 H3 w u' A'→R K F3 H3 v (bk u') A'
section
variable {X:Cx} {cls:Str→Addr} {W:XW} {pos:Pos} {x:Str} {i n j:Nat} {st:List Nat} {g:SG} {body:List Stmt} {tg iter:Expr} {wi:TI} {tgt:TG} {J:Addr→It} {sp:Spl}
variable {y z:Str} {py pz p pt p2:Pos} {kk:Nat}
end
end Hu
namespace Hu
open PySem L2 PyProof.Rows
set_option maxHeartbeats 1234567 in
section
variable {X:Cx} {cls:Str→Addr} {W:XW} {e:Expr} {o:Opd} {i:Nat} {x:Str} {p pos apos:Pos}
def rExtT (K:PySem.W.Frag):V→List V→Hp→VK→Prop:=fun x vs H Q => ∃ l b xs zs,(x = .ref l∧vs = [.ref b])∧(H l = some (.lst xs)∧SqT K H b zs)∧xs.length + zs.length≤sizeLine∧Q .non (upd H l (.lst (xs++zs)))
def mExtT:MutF
 | xs,[t] => match tupOf t with
  | some ds => if xs.length + ds.length≤sizeLine then some (.d .none,xs++ds.map .d) else none
  | none => none
 | _,_ => none
@[simp] theorem mExtT_ev (xs:List T) (t:T):mExtT xs [t] = match tupOf t with
  | some ds => if xs.length + ds.length≤sizeLine then some (.d .none,xs++ds.map .d) else none
  | none => none:=rfl
theorem p_extT {K:Par}:MutP K (rExtT K.K) mExtT:=fun F H a vs0 xs A' vs ts res ys e h1 h2 h3 hm Q k => by
 unfold mExtT at hm
 split at hm
 ·rename_i t
  cases hd:tupOf t with
  | none => rw [hd] at hm; cases hm
  | some ds =>
   rw [hd] at hm
   simp only at hm
   by_cases hz:xs.length + ds.length≤sizeLine
   ·rw [if_pos hz] at hm
    cases hm
    obtain ⟨v,rfl,A,r⟩:=pairedOne h3
    obtain ⟨b,zs,rfl,hb,fz⟩:=tupOf_at e r hd
    refine ⟨a,b,vs0,zs,⟨rfl,rfl⟩,⟨h1,hb⟩,by rw [h2.length,fz.length]; exact hz,?_⟩
    exact k _ (A'++[]) .non [] (RA.join h2 (RA.dats fz) (by simp)) (.d .non) (by simp) (by simp) (by simp)
   ·rw [if_neg hz] at hm; cases hm
 ·cases hm
end
end Hu
namespace Hu
open PySem L2 PyProof.Rows
structure RawInts (h:Heap) (a:Addr) (is:List Int) (es:Array DictEntry) (ep:Nat):Prop where
 raw:h.DictRaw a es ep
 sys:(a == sysModules) = false
 len:es.size = is.length
 val:∀ i (hi:i < es.size),∃ t,es[i].val = .int (is.getD i 0) t
section
variable {X:Cx} {pins:List (Addr × Obj)} {s:Shared} {σ:L2.St} {H:Hp} {a:Addr} {is:List Int}
variable {cls:Str→Addr} {W:XW} {i:Nat} {x:Str} {p p2 mpos pos apos dp kp:Pos} {c:Int} {j:Nat}
set_option maxHeartbeats 1234567 in
end
end Hu
namespace Hu
open PySem L2
def backE (i:Nat) (t0:T) (ρ ρ2:Rho):Rho:=ρ.mapIdx fun j u => if j = i then some t0 else match u with
 | none => none
 | some (.d x) => some (.d x)
 | some (.scr ns) => some (.scr ns)
 | some _ => match getS ρ2 j with
  | some t => if indep t = true then some t else none
  | none => none
def gLend (i:Nat) (g:G T):G T:=fun ρ => match getS ρ i with
 | some t0 => match frzOf t0 with
  | some x => match g (ρ.set i (some (.d x))) with
   | .ok t ρ2 => if indep t = true then .ok t (backE i t0 ρ ρ2) else .bad
   | _ => .bad
  | none => .bad
 | none => .bad
section
variable {X:Cx} {cls:Str→Addr} {W:XW} {e:Expr} {g:G T}
end
@[simp] theorem backE_nil (i:Nat) (t0:T) (ρ2:Rho):backE i t0 [] ρ2 = []:=rfl
theorem gLend_ev (i:Nat) (g:G T) (ρ:Rho):gLend i g ρ = match getS ρ i with
 | some t0 => match frzOf t0 with
  | some x => match g (ρ.set i (some (.d x))) with
   | .ok t ρ2 => if indep t = true then .ok t (backE i t0 ρ ρ2) else .bad
   | _ => .bad
  | none => .bad
 | none => .bad:=rfl
end Hu
namespace Hu
open L2 PySem PySem.Spec PyProof.Rows
def kMulT (a b:T):Option T:=match tupOf a,b with
 | some xs,.d (.int k) => if (!xs.isEmpty&&decide (1≤k)&&decide (k≤1000)&&decide (xs.length≤1000)) = true then some (.d (.tuple (List.replicate k.toNat xs).flatten)) else none
 | _,_ => none
section
variable {X:Cx} {cls:Str→Addr} {W:XW} {a b:Expr} {oa ob:Opd} {pos:Pos}
end
@[simp] theorem kMulT_ti (xs:List D) (k:Int):kMulT (.d (.tuple xs)) (.d (.int k)) = if (!xs.isEmpty&&decide (1≤k)&&decide (k≤1000)&&decide (xs.length≤1000)) = true then some (.d (.tuple (List.replicate k.toNat xs).flatten)) else none:=rfl
end Hu
namespace Hu
section
end
section
open PySem PyProof.Rows PySem.Spec L2
section
variable {X:Cx} {k:Nat} {p1 p2 p3:Pos}
end
def kRevT (t:T):Option T:=(tupOf t).map fun ds => .d (.tuple ds.reverse)
@[simp] theorem kRevT_d (ds:List D):kRevT (.d (.tuple ds)) = some (.d (.tuple ds.reverse)):=rfl
end
section
open PySem L2
variable {X:Cx} {cls:Str→Addr} {W:XW} {a:Expr} {pos p p2 q:Pos} {o:Opd}
end
end Hu
namespace Hu
open PySem L2
section
variable {K:Par} {F H:Hp}
theorem fld_at {f:Str} {t:T}:∀ {es:List (Str × V)} {fs:List (Str × T)} {A:List Addr},es.map Prod.fst = fs.map Prod.fst→RA K F H (es.map Prod.snd) (fs.map Prod.snd) A→fs.lookup f = some t→∃ v B,es.lookup f = some v∧R K F H v t B
 | [],[],_,_,_,h => by cases h
 | [],_ :: _,_,e,_,_ => by cases e
 | _ :: _,[],_,e,_,_ => by cases e
 | (g,v) :: es,(g',u) :: fs,A,e,r,h => by
  simp only [List.map_cons,List.cons.injEq] at e r
  obtain ⟨rfl,e⟩:=e
  cases r with
  | cons r1 r2 _ =>
   rw [List.lookup_cons] at h ⊢
   cases c:f == g with
   | true =>
    rw [c] at h
    cases h
    exact ⟨v,_,rfl,r1⟩
   | false =>
    rw [c] at h
    exact fld_at e r2 h
end
def gFld (i:Nat) (c f:Str):G T:=fun ρ => match getS ρ i with
 | some (.ins d fs) => if d = c then (match fs.lookup f with
  | some t => .ok t ρ
  | none => .bad) else .bad
 | _ => .bad
section
variable {X:Cx} {cls:Str→Addr} {W:XW} {i:Nat} {x c f:Str} {p pos:Pos}
theorem n_fld (hN:X.N[i]? = some x) (hv:Vis X.env.scope x) (hd:(x == ("__debug__":Str)) = false) (hcd:(x == ("__classdict__":Str)) = false) (C:Cls X.K (cls c)) (n:NoAttr X.K (cls c) f)
  (hb:attributeBase (.Name x p) f X.env (eval (.Name x p) X.env) = eval (.Name x p) X.env:=by rfl):DE X cls W (.Attribute (.Name x p) f pos) (.pk (gFld i c f)):=by
 refine ⟨(pe_fld (pe_var hN hv hd hcd) hb).imp fun σ H Q q => ?_,rfl⟩
 obtain ⟨ρ,F,fp,s,o⟩:=q
 unfold gFld at o
 cases e:getS ρ i with
 | none => rw [e] at o; exact o.elim
 | some t =>
  rw [e] at o
  cases t with
  | ins d fs =>
   simp only at o
   split at o
   ·rename_i hc
    subst hc
    cases l:fs.lookup f with
    | none => rw [l] at o; exact o.elim
    | some u =>
     rw [l] at o
     obtain ⟨v,e1,r⟩:=s.sl i _ (getS_some e)
     generalize fp i = cells at r
     cases r with
     | ins h1 h2 h3 h4 h5 h6 =>
      obtain ⟨w,B,l2,r2⟩:=fld_at h3 h4 l
      exact ⟨_,e1,_,_,_,_,w,rfl,h1,C,n,l2,o w F H fp B s r2 (Ext.refl F H fp)⟩
   ·exact o.elim
  | _ => exact o.elim
end
def sFldPut (i:Nat) (c f:Str) (g:G T):SG:=fun ρ => (g ρ).s fun t ρ1 => match getS ρ1 i with
 | some (.ins d fs) => if (decide (d = c)&&!(fs.map Prod.fst).contains f&&decide (fs.length < 900)) = true then .nx (ρ1.set i (some (.ins c (fs++[(f,t)])))) else .bad
 | _ => .bad
theorem putF_new {f:Str} {v:V}:∀ {es:List (Str × V)},f∉es.map Prod.fst→putF f v es = es++[(f,v)]
 | [],_ => rfl
 | (g,x) :: r,h => by
  simp only [List.map_cons,List.mem_cons,not_or] at h
  unfold putF
  rw [if_neg fun e => h.1 e.symm,putF_new h.2]
  rfl
section
variable {X:Cx} {cls:Str→Addr} {W:XW} {i:Nat} {x c f:Str} {p p' pos:Pos} {e:Expr} {o:Opd}
theorem ds_fld (hN:X.N[i]? = some x) (hv:Vis X.env.scope x) (hd:(x == ("__debug__":Str)) = false) (hcd:(x == ("__classdict__":Str)) = false) (C:Cls X.K (cls c)) (n:NoAttr X.K (cls c) f) (he:DE X cls W e o)
  (hs:swapsWith e (some (.Attribute (.Name x p) f p')) pos.line X.env = pure false:=by rfl):DS X cls W (.Assign [.Attribute (.Name x p) f p'] e pos) [] (sFldPut i c f o.vg) :=
 (ps_fld (pe_var hN hv hd hcd) he.own hs).imp fun D σ H q => by
  obtain ⟨ρ,F,fp,s,q⟩:=q
  refine ⟨ρ,F,fp,s,q.run.imp (Ext.refl F H fp) fun t ρ1 _ q v F1 H1 fp1 A s1 m x1 => ?_⟩
  cases c0:getS ρ1 i with
  | none => rw [c0] at q; exact q.elim
  | some t0 =>
   rw [c0] at q
   cases t0 with
   | ins d fs =>
    simp only at q
    split at q
    ·rename_i hc
     simp only [Bool.and_eq_true,decide_eq_true_eq,Bool.not_eq_true',List.contains_eq_mem,decide_eq_false_iff_not] at hc
     obtain ⟨⟨rfl,hc2⟩,hc3⟩:=hc
     obtain ⟨u0,hu0,r1⟩:=s1.sl i _ (getS_some c0)
     generalize hA:fp1 i = A0 at r1
     cases r1 with
     | @ins a dx _ es _ A' h1 h0 h3 h2 na nx =>
      have hl:es.length = fs.length:=by simpa using congrArg List.length h3
      have hf:f∉es.map Prod.fst:=by rw [h3]; exact hc2
      have r5:=RA.append h2 m.r fun b z w => m.dj b w i (hA ▸ List.mem_cons_of_mem _ (List.mem_cons_of_mem _ z))
      have ne:dx≠a:=fun z => by
       rw [z,h1] at h0
       cases h0
      have dxi:dx∈fp1 i:=hA ▸ List.mem_cons_of_mem _ List.mem_cons_self
      have ai:a∈fp1 i:=hA ▸ List.mem_cons_self
      have nb:∀ b,b∈A'++A→b∈fp1 i→b∈A':=fun b hb hi => (List.mem_append.mp hb).elim id fun z => absurd hi (m.dj _ z i)
      have n1:a∉A'++A:=fun z => na (nb a z ai)
      have n2:dx∉A'++A:=fun z => nx (nb dx z dxi)
      have n3:a∉dx :: A':=fun z => (List.mem_cons.mp z).elim (fun e => ne e.symm) na
      have r6:RA (Px X cls) F1 H1 ((es++[(f,v)]).map Prod.snd) ((fs++[(f,t)]).map Prod.snd) (A'++A):=by simpa using r5
      obtain ⟨fp3,s3,_,x3⟩:=mut_gen (u:=.ins d fs) (u2:=.ins d (fs++[(f,t)])) (ho:=.ins (cls d) dx (es++[(f,v)])) (put:=id) (a:=a) (A':=dx :: A') (A1:=dx :: (A'++A)) (rv:=.non) (rt:=.d .none) (C:=[]) s1 hu0 (getS_some c0) (by rw [hA]; exact Loc.refl (.ins h1 h0 h3 h2 na nx)) x1 m.r.live m.ff m.dj n3 rfl
       (fun tu st => .ins upd_same (by rw [st dx ne]; exact h0) (by simp [h3]) (r6.frame (Same.refl F1) tu fun b hb => st b fun e => n1 (e ▸ hb)) n1 n2) (.d .non) (fun b hb => by
        (rcases List.mem_cons.mp hb with rfl | hb)
        ·exact .inl List.mem_cons_self
        ·exact (List.mem_append.mp hb).imp (List.mem_cons_of_mem _) id) (by simp) (by simp)
      have fin:=q σ F1 _ fp3 s3 x3 (Ag.refl _ _)
      exact ⟨_,hu0,_,_,_,_,rfl,h1,C,n,by omega,by rw [putF_new hf]; exact fin⟩
    ·exact q.elim
   | _ => exact q.elim
end
def callM (X:Cx) (o:Expr) (m:Str) (apos pos:Pos) (es:List Expr) (pl:Sem Bool):Sem Value :=
 eval o X.env >>= fun ov => standAt apos.atName >>= fun _ => holding [ov] (getMethod ov m pl) >>= fun z => callWith pos z.1 z.2 (backTo pos (starEach es X.env)) (backToKw pos (keywordEach [] X.env))
def gOwn (i:Nat) (c m:Str) (fn:FnT) (io:List Bool) (os:List Opd):G T:=fun ρ => match getS ρ i with
 | some (.ins d fs) => if (decide (d = c)&&!(fs.map Prod.fst).contains m) = true then gUser (fnN fn) (true :: io) (.nm i :: os) ρ else .bad
 | _ => .bad
theorem look_none {f:Str} {α:Type}:∀ {es:List (Str × α)},f∉es.map Prod.fst→es.lookup f = none
 | [],_ => rfl
 | (g,x) :: r,h => by
  simp only [List.map_cons,List.mem_cons,not_or] at h
  rw [List.lookup_cons,show (f == g) = false from beq_eq_false_iff_ne.mpr h.1]
  exact look_none h.2
theorem tOs_mono {K:Par} {W:XW}:∀ {os:List Opd} {σ:L2.St} {H:Hp} {Q Q':List V→Hp→Prop},tOs K W os σ H Q→(∀ vs H',Q vs H'→Q' vs H')→tOs K W os σ H Q'
 | [],_,_,_,_,h,k => k _ _ h
 | _ :: _,_,_,_,_,h,k => tO_mono h fun v _ z => tOs_mono z fun vs H2 => k (v :: vs) H2
theorem own_ok {K:Par} {W:XW} {n i:Nat} {c m:Str} {fn:FnT} {io:List Bool} {os:List Opd} (f:os.all Opd.fine = true) (hn:io.length = n) {σ:St} {H:Hp} {Q:VK} {E:XK} (g:tG K W (gOwn i c m fn io os) σ H Q) :
  tMeth (K.cls c) m (spT K (n + 1) fn) [] E (tVar i) (tOs K W os) σ H Q:=by
 obtain ⟨ρ,F,fp,s,o⟩:=g
 unfold gOwn at o
 cases e:getS ρ i with
 | none => rw [e] at o; exact o.elim
 | some t =>
  rw [e] at o
  cases t with
  | ins d fs =>
   simp only at o
   split at o
   ·rename_i hc
    simp only [Bool.and_eq_true,decide_eq_true_eq,Bool.not_eq_true',List.contains_eq_mem,decide_eq_false_iff_not] at hc
    obtain ⟨rfl,hc2⟩:=hc
    have u:=user_ok (K:=K) (W:=W) (n:=n + 1) (fn:=fnN fn) (io:=true :: io) (os:=.nm i :: os) (by rw [List.all_cons,Bool.and_eq_true]; exact ⟨rfl,f⟩) (by simp [hn]) (σ:=σ) (H:=H) (Q:=Q) ⟨ρ,F,fp,s,o⟩
    obtain ⟨v,e1,r⟩:=s.sl i _ (getS_some e)
    generalize fp i = cells at r
    cases r with
    | @ins a dx _ es _ A' h1 h0 h3 h2 na nx =>
     obtain ⟨w,e2,u⟩:=u
     rw [e1] at e2
     cases e2
     refine ⟨_,e1,a,dx,es,rfl,h1,look_none (by rw [h3]; exact hc2),?_⟩
     exact tOs_mono u fun vs H1 z => by simpa using spT_N z
   ·exact o.elim
  | _ => exact o.elim
def mkF (c:Str) (fn:FnT):FnT:=fun us => match fn (.ins c [] :: us) with
 | .ret (.d .none) (some (.ins d fs) :: back) => if d = c then .ret (.ins d fs) back else .bad
 | _ => .bad
theorem mk_sp {K:Par} {n:Nat} {c:Str} {fn:FnT} {vs:List V} {H:Hp} {Q:VK} {E E':XK} (h:spT K n (mkF c fn) vs H Q E) {x dx:Addr} (hx:H x = none) (hdx:H dx = none) (ne:dx≠x) :
  spT K (n + 1) fn (.ref x :: vs) (upd (upd H dx (.own x)) x (.ins (K.cls c) dx [])) (fun v H2 => v = .non∧Q (.ref x) H2) E':=by
 obtain ⟨hl,F,fp,ts,s,o⟩:=h
 have H2x:upd (upd H dx (.own x)) x (.ins (K.cls c) dx []) x = some (.ins (K.cls c) dx []):=upd_same
 have H2d:upd (upd H dx (.own x)) x (.ins (K.cls c) dx []) dx = some (.own x):=by rw [upd_ne ne]; exact upd_same
 have away:∀ {i a},a∈fp i→a≠x∧a≠dx:=fun {i a} z => by
  obtain ⟨o1,e2,_⟩:=s.mt i a z
  exact ⟨(fun e => by rw [e,hx] at e2; cases e2),(fun e => by rw [e,hdx] at e2; cases e2)⟩
 have H2o:∀ {a},a≠x→a≠dx→upd (upd H dx (.own x)) x (.ins (K.cls c) dx []) a = H a:=fun {a} h1 h2 => by rw [upd_ne h1,upd_ne h2]
 have sm:Same H (upd (upd H dx (.own x)) x (.ins (K.cls c) dx [])):=(same_upd hdx).trans (same_upd (by rw [upd_ne (Ne.symm ne)]; exact hx))
 generalize upd (upd H dx (.own x)) x (.ins (K.cls c) dx []) = H2 at *
 have none2:∀ {a},H2 a = none→H a = none:=fun {a} z => by
  cases q:H a with
  | none => rfl
  | some o => rw [sm _ _ q] at z; cases z
 refine ⟨by simp [hl],F,(fun i => match i with | 0 => [x,dx] | i + 1 => fp i),.ins c [] :: ts,?_,?_⟩
 ·refine ⟨by simp [s.len],fun i t h => ?_,fun i j n a h1 h2 => ?_,fun i a h => ?_,fun i a h => ?_,s.sub.trans sm⟩
  ·cases i with
   | zero =>
    simp at h
    subst h
    exact ⟨_,rfl,.ins (A:=[]) (es:=[]) H2x H2d rfl .nil (by simp) (by simp)⟩
   | succ i =>
    obtain ⟨v,e1,r⟩:=s.sl i t (by simpa using h)
    exact ⟨v,by simpa using e1,r.frame (Same.refl F) (fun a xs z => sm _ _ z) fun a z => H2o (away z).1 (away z).2⟩
  ·have two:∀ {i a},a∈[x,dx]→a∉fp i:=fun {i a} z w => by
    simp at z
    exact z.elim (away w).1 (away w).2
   cases i with
   | zero => cases j with
    | zero => exact n rfl
    | succ j => exact two h1 h2
   | succ i => cases j with
    | zero => exact two h2 h1
    | succ j => exact s.dj i j (fun e => n (by rw [e])) a h1 h2
  ·cases i with
   | zero =>
    simp at h
    rcases h with rfl | rfl
    ·exact s.sub.free hx
    ·exact s.sub.free hdx
   | succ i => exact s.ff i a h
  ·cases i with
   | zero =>
    simp at h
    rcases h with rfl | rfl
    ·exact ⟨_,H2x,rfl⟩
    ·exact ⟨_,H2d,rfl⟩
   | succ i =>
    obtain ⟨o1,e2,q⟩:=s.mt i a h
    exact ⟨o1,sm _ _ e2,q⟩
 ·unfold mkF at o
  cases e:fn (.ins c [] :: ts) with
  | bad => rw [e] at o; exact o.elim
  | ex c' f back => rw [e] at o; exact o.elim
  | ret t back =>
   rw [e] at o
   split at o
   ·rename_i d fs back' q
    cases q
    split at o
    ·rename_i hc
     subst hc
     intro v F' H' fp' A s' m ext
     have hv:v = .non:=by
      cases m.r with
      | d z => cases z; rfl
     have hA:A = []:=by cases m.r; rfl
     subst hv hA
     refine ⟨rfl,?_⟩
     obtain ⟨v0,e0,r0⟩:=s'.sl 0 _ rfl
     simp at e0
     subst e0
     refine o (.ref x) F' H' (fun i => fp' (i + 1)) (fp' 0) ?_ ⟨r0,fun a z i w => s'.dj 0 (i + 1) (by simp) a z w,fun a z => s'.ff 0 a z⟩ ?_
     ·exact ⟨by have:=s'.len; simpa using this,fun i t h => by
       obtain ⟨v,e1,r⟩:=s'.sl (i + 1) t (by simpa using h)
       exact ⟨v,by simpa using e1,r⟩,fun i j n => s'.dj (i + 1) (j + 1) (by omega),fun i => s'.ff (i + 1),fun i => s'.mt (i + 1),s'.sub⟩
     ·have two:∀ {a:Addr},a∈[x,dx]→H a = none:=fun {a} z => by
       simp at z
       rcases z with rfl | rfl
       ·exact hx
       ·exact hdx
      refine ⟨fun a o h q => ext.keep a o (sm _ _ h) fun i z => ?_,ext.fsub,fun a o h => ?_,fun a h => ?_⟩
      ·cases i with
       | zero =>
        have:=two z
        rw [h] at this
        cases this
       | succ i => exact q i z
      ·rcases ext.fnew a o h with z | z | z | ⟨i,z⟩
       ·exact .inl z
       ·exact .inr (.inl (none2 z))
       ·exact .inr (.inr (.inl z))
       ·cases i with
        | zero => exact .inr (.inl (two z))
        | succ i => exact .inr (.inr (.inr ⟨i,z⟩))
      ·have h':a∈([]:List Addr)∨∃ i,a∈fp' i:=by
        rcases h with h | ⟨i,h⟩
        ·exact .inr ⟨0,h⟩
        ·exact .inr ⟨i + 1,h⟩
       rcases ext.own a h' with ⟨i,z⟩ | z
       ·cases i with
        | zero => exact .inr (two z)
        | succ i => exact .inl ⟨i,z⟩
       ·exact .inr (none2 z)
    ·exact o.elim
   ·exact o.elim
@[simp] theorem gFld_ev (i:Nat) (c f:Str) (ρ:Rho):gFld i c f ρ = match getS ρ i with
 | some (.ins d fs) => if d = c then (match fs.lookup f with
  | some t => .ok t ρ
  | none => .bad) else .bad
 | _ => .bad:=rfl
@[simp] theorem sFldPut_ev (i:Nat) (c f:Str) (g:G T) (ρ:Rho):sFldPut i c f g ρ = (g ρ).s fun t ρ1 => match getS ρ1 i with
 | some (.ins d fs) => if (decide (d = c)&&!(fs.map Prod.fst).contains f&&decide (fs.length < 900)) = true then .nx (ρ1.set i (some (.ins c (fs++[(f,t)])))) else .bad
 | _ => .bad:=rfl
@[simp] theorem gOwn_ev (i:Nat) (c m:Str) (fn:FnT) (io:List Bool) (os:List Opd) (ρ:Rho):gOwn i c m fn io os ρ = match getS ρ i with
 | some (.ins d fs) => if (decide (d = c)&&!(fs.map Prod.fst).contains m) = true then gUser (fnN fn) (true :: io) (.nm i :: os) ρ else .bad
 | _ => .bad:=rfl
end Hu
namespace Hu
open PySem L2
section
variable {X:Cx} {k:Nat} {f C:Addr} {fd:FuncData} {ps:List Str} {sp:Sp} {m:Str} {E:XK} {e o:Expr} {es:List Expr} {ta:TE} {t:TA} {apos pos p:Pos} {x:Str}
theorem run_F {pins:List (Addr × Obj)} {σ:St} {H:Hp} {s:Shared} {Q:VK} {us:List Value} {vs:List V} (F:FOk X.prog X.w X.K X.mg X.base CX0 k f fd ps sp) (g:X.A.guards = some []) (hr:Room k X.A) (hb:Binds X.K fd ps []) (I:Inv X pins σ H s) (r:Vals vs us) (h:sp vs H Q E):wpAny (model X.prog X.w) X.A (call (.ref f) us) (EP X pins σ Q) X.xe s:=by
 have b:=hb s us I.kIn (by simpa using r.length.symm.trans (F.len _ _ _ _ h))
 rw [List.append_nil] at b
 refine wpAny_call (codeAny_mono (F.run X.A g X.stack s H ⟨us,[]⟩ us vs Q E hr I.env0 b r h) fun w s' q => ?_)
 have z:=callEnd I (fun e s' (c:CX0 X.stack H s E e s') => (show False from c).elim) q
 cases w with
 | error e => exact z
 | ok fl => cases fl <;> first | exact z | exact z.elim
theorem pe_methF {pl:Sem Bool} (he:PE X o ta) (c:Cls X.K C) (hm:Meth X.K C m f) (F:FOk X.prog X.w X.K X.mg X.base CX0 k f fd ps sp) (g:X.A.guards = some []) (hr:Room k X.A) (hb:Binds X.K fd ps []) (ha:PA X (e :: es) t)
  (hst:starEach (e :: es) X.env = (false,eval e X.env) :: starEach es X.env) (hpl:(backTo pos (starEach es X.env)).any (·.1) = false)
  (ht:eval (.Call (.Attribute o m apos) (e :: es) [] pos) X.env = callM X o m apos pos (e :: es) pl):PE X (.Call (.Attribute o m apos) (e :: es) [] pos) (tMeth C m sp [] E ta t) :=
 ⟨fun pins s σ H Q I h => PySem.W.methodCall_KW (pl:=pl) (thn (he.run pins s σ H _ I h) fun u s1 z => by
  obtain ⟨_,G,J,rx,a,dx,fs,rfl,ea,l,q⟩:=z
  cases rx
  exact getmeth_ok J ea c hm l (PySem.W.callWith_K (first:=[.ref a]) (h₀:=X.base) I.ok.mod.kin hm.kp (thn (ha.run pos pins s1 σ G _ J q) fun us s2 ⟨vs,G2,J2,r,q2⟩ => ⟨J2.kIn,run_F F g hr hb J2 (show Vals (V.ref a :: vs) (Value.ref a :: us) from .cons rfl r) (by simpa using q2)⟩) hst hpl)) ht⟩
theorem run_new {pins:List (Addr × Obj)} {σ:St} {H:Hp} {s:Shared} {Q:VK} {us:List Value} {vs:List V} (M:L2.Mk X.K C f) (F:FOk X.prog X.w X.K X.mg X.base CX0 k f fd ps sp) (g:X.A.guards = some []) (hr:Room (k + 1) X.A) (hb:Binds X.K fd ps []) (I:Inv X pins σ H s) (r:Vals vs us)
  (h:∀ x dx,H x = none→H dx = none→dx≠x→sp (.ref x :: vs) (upd (upd H dx (.own x)) x (.ins C dx [])) (fun v H2 => v = .non∧Q (.ref x) H2) E):wpAny (model X.prog X.w) X.A (call (.ref C) us) (EP X pins σ Q) X.xe s:=by
 obtain ⟨n,hn⟩:∃ n,n = s.heap.objs.size:=⟨_,rfl⟩
 have q0:=h (n + 1) n (I.hok.fresh (show s.heap.objs.size≤n + 1 by omega)) (I.hok.fresh (show s.heap.objs.size≤n by omega)) (Nat.ne_of_lt (Nat.lt_succ_self n))
 have J:=Inv.made (C:=C) I
 rw [← hn] at J
 have b:=hb _ (Value.ref (n + 1) :: us) J.kIn (by simpa using (congrArg Nat.succ r.length.symm).trans (F.len _ _ _ _ q0))
 rw [List.append_nil] at b
 refine wpAny_call (make_map (f:=f) I.kIn M.makes M.init (beq_iff_eq.mp M.fn) (by
  rw [← hn]
  refine codeAny_mono (F.run _ ?_ X.stack _ _ ⟨Value.ref (n + 1) :: us,[]⟩ (Value.ref (n + 1) :: us) (V.ref (n + 1) :: vs) _ E (hr.make C us []) (J.env0.make C us []) b (.cons rfl r) q0) fun w s' q => ?_
  ·exact g
  ·have z:=callEnd J (fun e s' (c:CX0 X.stack _ _ E e s') => (show False from c).elim) q
   cases w with
   | error e => exact z
   | ok fl => cases fl with
    | ret u =>
     obtain ⟨v,G,J3,rv,ev,q3⟩:=z
     subst ev
     exact ⟨rv,V.ref (n + 1),G,J3,rfl,q3⟩
    | _ => exact z.elim))
theorem pe_newF (M:L2.Mk X.K C f) (F:FOk X.prog X.w X.K X.mg X.base CX0 k f fd ps sp) (g:X.A.guards = some []) (hr:Room (k + 1) X.A) (hg:Gl X x) (hm:X.mg x = some (.ref C)) (hb:Binds X.K fd ps []) (ha:PA X (e :: es) t) (hdb:(x == ("__debug__":Str)) = false)
  (he:starEach (e :: es) X.env = (false,eval e X.env) :: starEach es X.env) (hpl:(backTo pos (starEach es X.env)).any (·.1) = false):PE X (.Call (.Name x p) (e :: es) [] pos) (tMake C sp [] E t) :=
 ⟨fun pins s σ H Q I h => wpAny_Call_Name_kw (ld_glob I hg hm (PySem.W.callWith_K (h₀:=X.base) I.ok.mod.kin M.kp (thn (ha.run pos pins s σ H _ I h) fun us s1 z => by
  obtain ⟨vs,G,J,r,q⟩:=z
  exact ⟨J.kIn,run_new M F g hr hb J r (by simpa using q)⟩) he hpl) hdb)⟩
end
structure CgM (P:Program) (w:World) (K:PySem.W.Frag) (mg:Str→Option Value) (base:Heap) (k:Nat) (C:Addr) (m:Str) (sp:Sp):Prop where
 ex:∃ (f:Addr) (fd:FuncData) (ps:List Str),FOk P w K mg base CX0 k f fd ps sp∧Meth K C m f∧Binds K fd ps []
structure CgI (P:Program) (w:World) (K:PySem.W.Frag) (mg:Str→Option Value) (base:Heap) (k:Nat) (x:Str) (C:Addr) (sp:Sp):Prop where
 ex:∃ (f:Addr) (fd:FuncData) (ps:List Str),FOk P w K mg base CX0 k f fd ps sp∧L2.Mk K C f∧Binds K fd ps []∧mg x = some (.ref C)
section
variable {X:Cx} {cls:Str→Addr} {W:XW} {e:Expr} {es:List Expr} {os:List Opd} {pos p apos pos2:Pos} {x c m:Str} {k k2 j i:Nat} {fn fi fm:FnT} {io:List Bool} {pl:Sem Bool}
theorem u_own (M:CgM X.prog X.w X.K X.mg X.base k (cls c) m (spT (Px X cls) (io.length + 1) fn)) (C:Cls X.K (cls c)) (hr:Room j X.A) (g:X.A.guards = some []) (hkj:k≤j)
  (hN:X.N[i]? = some x) (hv:Vis X.env.scope x) (hd:(x == ("__debug__":Str)) = false) (hcd:(x == ("__classdict__":Str)) = false) (h:DAs X cls W (e :: es) os)
  (ht:eval (.Call (.Attribute (.Name x p) m apos) (e :: es) [] pos) X.env = callM X (.Name x p) m apos pos (e :: es) pl:=by rfl):DE X cls W (.Call (.Attribute (.Name x p) m apos) (e :: es) [] pos) (.val (gOwn i c m fn io (os.map Opd.lt))):=by
 obtain ⟨f,fd,ps,F,M,hb⟩:=M.ex
 have hst:anyStar (e :: es) = false:=h.star
 simp only [anyStar,List.any_cons,Bool.or_eq_false_iff] at hst
 exact ⟨(pe_methF (E:=fun _ _ _ => False) (pe_var hN hv hd hcd) C M F g (hr.mono hkj) hb h.lt.pa (star_cons hst.1) (star_none hst.2) ht).imp fun σ H Q q => own_ok h.lt.fine rfl q,rfl⟩
theorem u_make (M:CgI X.prog X.w X.K X.mg X.base k x (cls c) (spT (Px X cls) (io.length + 1) fn)) (hr:Room j X.A) (g:X.A.guards = some []) (hkj:k + 1≤j) (hg:Gl X x) (hdb:(x == ("__debug__":Str)) = false) (h:DAs X cls W (e :: es) os) :
  DE X cls W (.Call (.Name x p) (e :: es) [] pos) (.val (gUser (mkF c fn) io (os.map Opd.lt))):=by
 obtain ⟨f,fd,ps,F,M,hb,hm⟩:=M.ex
 have hst:anyStar (e :: es) = false:=h.star
 simp only [anyStar,List.any_cons,Bool.or_eq_false_iff] at hst
 exact ⟨(pe_newF (E:=fun _ _ _ => False) M F g (hr.mono hkj) hg hm hb h.lt.pa hdb (star_cons hst.1) (star_none hst.2)).imp fun σ H Q q => tOs_mono (user_ok h.lt.fine rfl q) fun vs H1 z x dx hx hdx ne => by simpa using mk_sp z hx hdx ne,rfl⟩
end
end Hu
namespace Hu
open PySem L2
section
variable {X:Cx} {cls:Str→Addr} {W:XW} {e:Expr} {es:List Expr} {os:List Opd} {o:Opd} {pos p p' apos pos2:Pos} {x c m f:Str} {k k2 j:Nat} {fn fi fm:FnT} {io:List Bool} {pl:Sem Bool}
theorem w_fld (i:Nat) (C:Cls X.K (cls c)) (n:NoAttr X.K (cls c) f) (hN:X.N[i]? = some x:=by rfl) (hv:Vis X.env.scope x:=by first | exact .inl rfl | exact .inr (.inl rfl) | exact .inr (.inr rfl)) (hd:(x == ("__debug__":Str)) = false:=by decide) (hcd:(x == ("__classdict__":Str)) = false:=by decide)
  (hb:attributeBase (.Name x p) f X.env (eval (.Name x p) X.env) = eval (.Name x p) X.env:=by rfl):DE X cls W (.Attribute (.Name x p) f pos) (.pk (gFld i c f)):=n_fld hN hv hd hcd C n hb
theorem w_put (i:Nat) (C:Cls X.K (cls c)) (n:NoAttr X.K (cls c) f) (he:DE X cls W e o) (hN:X.N[i]? = some x:=by rfl) (hv:Vis X.env.scope x:=by first | exact .inl rfl | exact .inr (.inl rfl) | exact .inr (.inr rfl)) (hd:(x == ("__debug__":Str)) = false:=by decide) (hcd:(x == ("__classdict__":Str)) = false:=by decide)
  (hs:swapsWith e (some (.Attribute (.Name x p) f p')) pos.line X.env = pure false:=by rfl):DS X cls W (.Assign [.Attribute (.Name x p) f p'] e pos) [] (sFldPut i c f o.vg):=ds_fld hN hv hd hcd C n he hs
theorem w_own (i:Nat) (M:CgM X.prog X.w X.K X.mg X.base k (cls c) m (spT (Px X cls) (io.length + 1) fn)) (C:Cls X.K (cls c)) (hr:Room j X.A) (g:X.A.guards = some []) (h:DAs X cls W (e :: es) os) (hkj:k≤j:=by first | exact Nat.le_refl _ | decide | omega)
  (hN:X.N[i]? = some x:=by rfl) (hv:Vis X.env.scope x:=by first | exact .inl rfl | exact .inr (.inl rfl) | exact .inr (.inr rfl)) (hd:(x == ("__debug__":Str)) = false:=by decide) (hcd:(x == ("__classdict__":Str)) = false:=by decide)
  (ht:eval (.Call (.Attribute (.Name x p) m apos) (e :: es) [] pos) X.env = callM X (.Name x p) m apos pos (e :: es) pl:=by rfl):DE X cls W (.Call (.Attribute (.Name x p) m apos) (e :: es) [] pos) (.val (gOwn i c m fn io (os.map Opd.lt))):=u_own M C hr g hkj hN hv hd hcd h ht
end
def methOf (s:Stmt) (j:Nat):Stmt:=match s with
 | .ClassDef _ _ _ body _ _ _ _ _ _ _ => (body.getD j (.Pass ⟨0,0,0,0⟩))
 | _ => .Pass ⟨0,0,0,0⟩
end Hu
namespace Hu
open PySem L2
theorem keyIx_look {α:Type} {f:Str} {v':V}:∀ {es:List (Str × V)} {fs:List (Str × T)} {j:Nat},es.map Prod.fst = fs.map Prod.fst→keyIx fs f = some j→(es.map Prod.snd)[j]? = some v'→es.lookup f = some v'
 | [],fs,j,_,_,h => by simp at h
 | (a,w) :: es,[],j,h,_,_ => by simp at h
 | (a,w) :: es,(b,t) :: fs,j,h,h1,h2 => by
  simp only [List.map_cons,List.cons.injEq] at h
  obtain ⟨rfl,h⟩:=h
  unfold keyIx at h1
  rw [List.findIdx?_cons] at h1
  rw [List.lookup_cons]
  by_cases c:a = f
  ·simp only [c,decide_true,if_true,Option.some.injEq] at h1
   subst h1
   simp at h2
   simp [c,h2]
  ·simp only [c,decide_false,Bool.false_eq_true,if_false,Option.map_eq_some_iff] at h1
   obtain ⟨j',h1,rfl⟩:=h1
   rw [show (f == a) = false from beq_eq_false_iff_ne.mpr fun z => c z.symm]
   exact keyIx_look (α:=α) h h1 (by simpa using h2)
section
variable {X:Cx} {cls:Str→Addr} {W:XW} {e b:Expr} {pos p p2:Pos} {o ob:Opd} {x c f:Str} {i:Nat} {as:List Acc}
theorem dp_fld (h:DP X cls e i as) (C:Cls X.K (cls c)) (n:NoAttr X.K (cls c) f) (hb:attributeBase e f X.env (eval e X.env) = eval e X.env):DP X cls (.Attribute e f pos) i (as++[.fld c f]) :=
 (pe_fld h hb).imp fun σ H Q q => by
  obtain ⟨ρ,F,fp,t,p,u,v0,s,h1,h2,h3,h4,r,q⟩:=q
  obtain ⟨p0,s0,j,u',e1,e2,e3,e4,rfl,e5,e6⟩:=pathOf_snoc h2
  rw [e5] at h3
  cases h3
  refine ⟨ρ,F,fp,t,p0,s0,v0,s,h1,e1,e2,h4,r,fun v1 A1 L1 => ?_⟩
  obtain ⟨v',A',ka,L2⟩:=Loc.kid L1.r e4
  have L:=L1.trans L2
  rw [e6] at q
  have q':=q v' A' L
  clear e6 e4 e2 L1 L2 L q
  unfold Acc.at at e3
  cases s0 with
  | ins d fs =>
   simp only at e3
   split at e3
   ·rename_i hc
    subst hc
    obtain ⟨a,rfl,dx,es,k1,_,k2,k3⟩:=ka
    exact ⟨a,_,dx,es,v',rfl,k1,C,n,keyIx_look (α:=Nat) k2 e3 k3,q'⟩
   ·cases e3
  | _ => cases e3
end
def stV (ob:Opd) (ρ:Rho):Option T:=match ob with
 | .nm j => getS ρ j
 | .con _ x => some (.d x)
 | _ => none
def sPutL (i:Nat) (as:List Acc) (ob:Opd) (g:G T):SG:=fun ρ => (g ρ).s fun t ρ1 => match getS ρ1 i with
 | none => .bad
 | some w => match pathOf ρ1 as w with
  | none => .bad
  | some p => match stV ob ρ1 with
   | none => .bad
   | some kt => match putA t (getP p w) [kt] with
    | some u => .nx (ρ1.set i (some (putP p w u)))
    | none => .bad
theorem putL_at {K:Par} {F H F0 H0:Hp} {σ:St} {ρ:Rho} {fp fp0:Nat→List Addr} {B:List Addr} (s:Sim K F H σ ρ fp) (x:Ext F0 H0 fp0 F H fp B) {i:Nat} {v0 v w:V} {t t0 t1 tw u:T} {Aw A0:List Addr} {put:T→T} (hv:σ[i]? = some (some v0)) (ht:ρ[i]? = some (some t0)) (L:Loc K F H v0 t0 (fp i) v t1 A0 put) {vv:V} (m:Tmp K F H fp vv t B) (rw':R K F H w tw Aw) (q:putA t (some t1) [tw] = some u) :
  ∃ H1 fp1,rSetA v w vv H (fun H' => H' = H1)∧Sim K F H1 σ (ρ.set i (some (put u))) fp1∧Ext F0 H0 fp0 F H1 fp1 []:=by
 have r1:=L.r
 unfold putA at q
 split at q
 ·rename_i xs k h1 h2
  simp only [Option.some.injEq] at h1
  subst h1
  simp only [List.cons.injEq,and_true] at h2
  subst h2
  simp only [Option.map_eq_some_iff] at q
  obtain ⟨j,hj,rfl⟩:=q
  cases r1 with
  | @lst a vs0 _ A' h1 h2 h3 =>
   have sub:∀ b,b∈a :: A'→b∈fp i:=L.sub
   obtain ⟨A1,r5,i5⟩:=RA.put h2 (ixN_seq hj).2.1 m.r fun b z w => m.dj b w i (sub b (List.mem_cons_of_mem _ z))
   have hn:a∉A1:=fun z => by
    rcases i5 _ z with z | z
    ·exact h3 z
    ·exact m.dj _ z i (sub a List.mem_cons_self)
   obtain ⟨fp3,s3,_,x3⟩:=mut_gen (u:=.lst xs) (u2:=.lst (xs.set j t)) (ho:=.lst (vs0.set j vv)) (put:=put) (a:=a) (A':=A') (rv:=.non) (rt:=.d .none) (C:=[]) s hv ht L x m.r.live m.ff m.dj h3 rfl
    (fun tu st => .lst upd_same (r5.frame (Same.refl F) tu fun b hb => st b fun e => hn (e ▸ hb)) hn) (.d .non) i5 (by simp) (by simp)
   ·exact ⟨_,fp3,.inl ⟨a,vs0,k,j,rfl,rw'.int,h1,by rw [h2.length]; exact hj,rfl⟩,s3,x3⟩
 ·rename_i kvs kt h1 h2
  simp only [Option.some.injEq] at h1
  subst h1
  simp only [List.cons.injEq,and_true] at h2
  subst h2
  simp only [Option.bind_eq_some_iff] at q
  obtain ⟨k,hk,q⟩:=q
  split at q
  ·rename_i hc
   cases q
   simp only [Bool.and_eq_true,decide_eq_true_eq] at hc
   have:=keyOf_at rw' hk
   subst this
   cases r1 with
   | @dK a es _ A' h1 h0 h2 h3 =>
    have sub:∀ b,b∈a :: A'→b∈fp i:=L.sub
    obtain ⟨A1,e5,r5,i5⟩:=putT_at h0 hc.2 h2 m.r fun b z w => m.dj b w i (sub b (List.mem_cons_of_mem _ z))
    have hl:es.length = kvs.length:=by simpa using congrArg List.length h0
    have hn:a∉A1:=fun z => by
     rcases i5 _ z with z | z
     ·exact h3 z
     ·exact m.dj _ z i (sub a List.mem_cons_self)
    obtain ⟨fp3,s3,_,x3⟩:=mut_gen (u:=.dK kvs) (u2:=.dK (putT kvs k t)) (ho:=.dK (putK es k vv)) (put:=put) (a:=a) (A':=A') (rv:=.non) (rt:=.d .none) (C:=[]) s hv ht L x m.r.live m.ff m.dj h3 rfl
     (fun tu st => .dK upd_same e5 (r5.frame (Same.refl F) tu fun b hb => st b fun e => hn (e ▸ hb)) hn) (.d .non) i5 (by simp) (by simp)
    ·exact ⟨_,fp3,.inr ⟨a,_,rfl,.inl ⟨es,k,h1,rfl,by omega,rfl⟩,rfl⟩,s3,x3⟩
  ·cases q
 ·rename_i kvs kt h1 h2
  simp only [Option.some.injEq] at h1
  subst h1
  simp only [List.cons.injEq,and_true] at h2
  subst h2
  simp only [Option.bind_eq_some_iff] at q
  obtain ⟨k,hk,q⟩:=q
  split at q
  ·rename_i hc
   cases q
   simp only [Bool.and_eq_true,decide_eq_true_eq] at hc
   obtain ⟨bk,rfl,hbk⟩:=tkeyOf_at s.sub rw' hk
   cases r1 with
   | @dT a es _ A' h1 h0 h2 h3 =>
    have sub:∀ b,b∈a :: A'→b∈fp i:=L.sub
    obtain ⟨A1,e5,r5,i5⟩:=putT_at h0 hc.2 h2 m.r fun b z w => m.dj b w i (sub b (List.mem_cons_of_mem _ z))
    have hl:es.length = kvs.length:=by simpa using congrArg List.length h0
    have hn:a∉A1:=fun z => by
     rcases i5 _ z with z | z
     ·exact h3 z
     ·exact m.dj _ z i (sub a List.mem_cons_self)
    obtain ⟨fp3,s3,_,x3⟩:=mut_gen (u:=.dT kvs) (u2:=.dT (putT kvs k t)) (ho:=.dT (putK es k vv)) (put:=put) (a:=a) (A':=A') (rv:=.non) (rt:=.d .none) (C:=[]) s hv ht L x m.r.live m.ff m.dj h3 rfl
     (fun tu st => .dT upd_same e5 (r5.frame (Same.refl F) tu fun b hb => st b fun e => hn (e ▸ hb)) hn) (.d .non) i5 (by simp) (by simp)
    ·exact ⟨_,fp3,.inr ⟨a,_,rfl,.inr ⟨es,k,bk,h1,rfl,hbk,by omega,rfl⟩,rfl⟩,s3,x3⟩
  ·cases q
 ·cases q
section
variable {X:Cx} {cls:Str→Addr} {W:XW} {e a b:Expr} {pos p p2 pt:Pos} {ob o:Opd} {x c f:Str} {i:Nat} {as:List Acc}
theorem ds_putL (hu:X.A.units + 1 < cLine) (he:DE X cls W e o) (ha:DP X cls a i as) (hb:DE X cls W b ob) (st:isStill ob = true) (hst:isStarT (.Subscript a b p2) = false)
  (has:∀ v,assign (.Subscript a b p2) X.env v = (do let ov ← holding [v] (eval a X.env); let iv ← holding [v,ov] (eval b X.env); standAt p2; holding [v,ov,iv] (setItem ov iv v); release [v,ov,iv] []))
  (hs:swapsWithSole [.Subscript a b p2] e pos.line X.env = pure false) (hw:swappedStores [.Subscript a b p2] e X.env = pure none) :
  DS X cls W (.Assign [.Subscript a b p2] e pos) [] (sPutL i as ob o.vg) :=
 (ps_asg he.own (pg_sub ha hb.1 (set_any hu) has) hs hw (assignEach_cons hst)).imp fun D σ H q => by
  obtain ⟨ρ,F,fp,s,q⟩:=q
  refine ⟨ρ,F,fp,s,q.run.imp (Ext.refl F H fp) fun t ρ1 _ q v F1 H1 fp1 A s1 m x1 => ?_⟩
  cases c0:getS ρ1 i with
  | none => rw [c0] at q; exact q.elim
  | some w =>
  rw [c0] at q
  simp only at q
  cases c1:pathOf ρ1 as w with
  | none => rw [c1] at q; exact q.elim
  | some pp =>
  rw [c1] at q
  simp only at q
  cases c2:stV ob ρ1 with
  | none => rw [c2] at q; exact q.elim
  | some kt =>
  rw [c2] at q
  simp only at q
  cases c3:putA t (getP pp w) [kt] with
  | none => rw [c3] at q; exact q.elim
  | some u2 =>
  rw [c3] at q
  obtain ⟨u,hu2⟩:=pathOf_get c1
  rw [hu2] at c3
  obtain ⟨v0,hv0,r0⟩:=s1.sl i w (getS_some c0)
  refine ⟨ρ1,F1,fp1,w,pp,u,v0,s1,c0,c1,hu2,hv0,r0,fun v' A' L => ?_⟩
  have fin:∀ (y:V) (Ay:List Addr),R (Px X cls) F1 H1 y kt Ay→rSetA v' y v H1 fun H' => D.nx σ H':=fun y Ay ry => by
   obtain ⟨H3,fp3,hr,s3,x3⟩:=putL_at s1 x1 hv0 (getS_some c0) L m ry c3
   have fin:=q σ F1 H3 fp3 s3 x3 (Ag.refl _ _)
   rcases hr with hr | hr
   ·obtain ⟨p',xs',k',j',e1,e2,e3,e4,e5⟩:=hr
    exact .inl ⟨p',xs',k',j',e1,e2,e3,e4,by rw [e5]; exact fin⟩
   ·obtain ⟨a',H',e1,e2,e3⟩:=hr
    exact .inr ⟨a',H',e1,e2,by rw [e3]; exact fin⟩
  cases ob with
  | nm l =>
   obtain ⟨y,hy,ry⟩:=s1.sl l kt (getS_some c2)
   exact ⟨y,hy,fin y _ ry⟩
  | con y d =>
   simp only [stV,Option.some.injEq] at c2
   subst c2
   exact fin y [] (.d (conOk.fz hb.2))
  | _ => simp [isStill] at st
end
section
variable {X:Cx} {cls:Str→Addr} {W:XW} {e a b:Expr} {es:List Expr} {os:List Opd} {pos p p2 pt:Pos} {ob o:Opd} {x c f:Str} {i k j:Nat} {as:List Acc} {fn:FnT} {io:List Bool}
theorem p_fld (h:DP X cls e i as) (C:Cls X.K (cls c)) (n:NoAttr X.K (cls c) f) (hb:attributeBase e f X.env (eval e X.env) = eval e X.env:=by rfl):DP X cls (.Attribute e f pos) i (as++[.fld c f]):=dp_fld h C n hb
theorem s_putL (hr:Room k X.A) (he:DE X cls W e o) (ha:DP X cls a i as) (hb:DE X cls W b ob) (st:isStill ob = true:=by rfl) (hst:isStarT (.Subscript a b p2) = false:=by rfl)
  (has:∀ v,assign (.Subscript a b p2) X.env v = (do let ov ← holding [v] (eval a X.env); let iv ← holding [v,ov] (eval b X.env); standAt p2; holding [v,ov,iv] (setItem ov iv v); release [v,ov,iv] []):=by intro _; rfl)
  (hs:swapsWithSole [.Subscript a b p2] e pos.line X.env = pure false:=by rfl) (hw:swappedStores [.Subscript a b p2] e X.env = pure none:=by rfl) :
  DS X cls W (.Assign [.Subscript a b p2] e pos) [] (sPutL i as ob o.vg):=ds_putL (hu_of hr) he ha hb st hst has hs hw
theorem w_make (M:CgI X.prog X.w X.K X.mg X.base k x (cls c) (spT (Px X cls) (io.length + 1) fn)) (hr:Room j X.A) (g:X.A.guards = some []) (h:DAs X cls W (e :: es) os) (hkj:k + 1≤j:=by first | exact Nat.le_refl _ | decide | omega) (hg:Gl X x:=by rfl) (hdb:(x == ("__debug__":Str)) = false:=by decide) :
  DE X cls W (.Call (.Name x p) (e :: es) [] pos) (.val (gUser (mkF c fn) io (os.map Opd.lt))):=u_make M hr g hkj hg hdb h
end
@[simp] theorem sPutL_ev (i:Nat) (as:List Acc) (ob:Opd) (g:G T) (ρ:Rho):sPutL i as ob g ρ = (g ρ).s fun t ρ1 => match getS ρ1 i with
 | none => .bad
 | some w => match pathOf ρ1 as w with
  | none => .bad
  | some p => match stV ob ρ1 with
   | none => .bad
   | some kt => match putA t (getP p w) [kt] with
    | some u => .nx (ρ1.set i (some (putP p w u)))
    | none => .bad:=rfl
end Hu
namespace Hu
section
open Srt SrtO PySem PyProof.Rows
variable {E:Value→Shared→Prop} {A:Around} {s:Shared} {prog:Program} {w:World}
end
section
open L2 PySem PySem.Spec PyProof.Rows
variable {X:Cx} {cls:Str→Addr} {W:XW} {a:Expr} {oa:Opd} {p pos:Pos}
def kSortTI (t:T):Option T:=(tupOf t).bind fun ds => (asInts ds).map fun ns => .lst (((sortI ns).map PyData.int).map T.d)
@[simp] theorem kSortTI_d (ds:List D):kSortTI (.d (.tuple ds)) = (asInts ds).map fun ns => .lst (((sortI ns).map PyData.int).map T.d):=rfl
end
end Hu
namespace Hu
section
open PySem L2 PyProof.Rows
variable {E:Value→Shared→Prop} {A:Around} {prog:Program} {w:World}
end
open PySem L2
section
variable {X:Cx}
end
abbrev MutKF:=List (Key × T)→List T→Option (T × List (Key × T))
def gMutK (i:Nat) (as:List Acc) (os:List Opd) (m:MutKF):G T:=fun ρ => match getS ρ i with
 | none => .bad
 | some t => match pathOf ρ as t with
  | none => .bad
  | some p => match getP p t with
   | some (.dK kvs) => gOs os (fun ts ρ' => match m kvs ts with
    | some (res,ks) => if i < ρ'.length then .ok res (ρ'.set i (some (putP p t (.dK ks)))) else .bad
    | none => .bad) (ρ.set i none)
   | _ => .bad
section
variable {K:Par} {W:XW} {F H F0 H0:Hp} {σ:St} {fp fp0:Nat→List Addr} {Q:VK} {i:Nat} {as:List Acc} {m:MutKF}
end
section
variable {X:Cx} {cls:Str→Addr} {W:XW} {e e2 ob a:Expr} {es:List Expr} {os:List Opd} {pos p apos:Pos} {o o2 oa:Opd} {x name:Str} {id:String} {r:V→List V→Hp→VK→Prop} {m:MutKF} {i:Nat} {as:List Acc}
end
@[simp] theorem gMutK_ev (i:Nat) (as:List Acc) (os:List Opd) (m:MutKF) (ρ:Rho):gMutK i as os m ρ = match getS ρ i with
 | none => .bad
 | some t => match pathOf ρ as t with
  | none => .bad
  | some p => match getP p t with
   | some (.dK kvs) => gOs os (fun ts ρ' => match m kvs ts with
    | some (res,ks) => if i < ρ'.length then .ok res (ρ'.set i (some (putP p t (.dK ks)))) else .bad
    | none => .bad) (ρ.set i none)
   | _ => .bad:=rfl
end Hu
namespace Hu
open PySem L2
def fldSet (f:Str) (t:T) (fs:List (Str × T)):Option (List (Str × T)):=(keyIx fs f).map fun j => reval fs ((fs.map Prod.snd).set j t)
def sFldSet (i:Nat) (c f:Str) (g:G T):SG:=fun ρ => (g ρ).s fun t ρ1 => match getS ρ1 i with
 | some (.ins d fs) => match fldSet f t fs with
  | some fs2 => if (decide (d = c)&&decide (fs.length < 900)) = true then .nx (ρ1.set i (some (.ins c fs2))) else .bad
  | none => .bad
 | _ => .bad
section
variable {X:Cx} {cls:Str→Addr} {W:XW} {i:Nat} {x c f:Str} {p p' pos:Pos} {e:Expr} {o:Opd}
def sFldAug (i:Nat) (c f:Str) (k:Int→Int→Int) (n:Int):SG:=fun ρ => match getS ρ i with
 | some (.ins d fs) => match fs.lookup f with
  | some (.d (.int a)) => match fldSet f (.d (.int (k a n))) fs with
   | some fs2 => if (decide (d = c)&&decide (fs.length < 900)) = true then .nx (ρ.set i (some (.ins c fs2))) else .bad
   | none => .bad
  | _ => .bad
 | _ => .bad
end
end Hu
namespace Hu
open PySem L2
abbrev Rdr:=Rho→Option T
section
variable {X:Cx} {cls:Str→Addr} {W:XW} {e ob:Expr} {es:List Expr} {g:Rdr} {gs:List Rdr} {pos p q apos:Pos} {x c f:Str} {i:Nat} {as:List Acc}
end
end Hu
namespace Hu
open PySem L2
def gOwnX (i:Nat) (c m:Str) (fn:FnT) (io:List Bool) (os:List Opd):G T:=fun ρ => match getS ρ i with
 | some (.ins d fs) => if (decide (d = c)&&!(fs.map Prod.fst).contains m) = true then gUser fn (true :: io) (.nm i :: os) ρ else .bad
 | _ => .bad
section
variable {X:Cx} {k:Nat} {f C:Addr} {fd:FuncData} {ps:List Str} {sp:Sp} {m:Str} {CX:CXT} {E:St→XK} {e o:Expr} {es:List Expr} {ta:TE} {t:TA} {apos pos p:Pos} {x:Str}
end
structure CgMx (P:Program) (w:World) (K:PySem.W.Frag) (mg:Str→Option Value) (base:Heap) (k:Nat) (C:Addr) (m:Str) (sp:Sp):Prop where
 ex:∃ (f:Addr) (fd:FuncData) (ps:List Str),FOk P w K mg base (CX P w) k f fd ps sp∧Meth K C m f∧Binds K fd ps []
theorem CgMx.never {P:Program} {w:World} {K:PySem.W.Frag} {mg:Str→Option Value} {base:Heap} {k n:Nat} {C:Addr} {m:Str} {cls:Str→Addr} {fn:FnT} (M:CgMx P w K mg base k C m (spT ⟨K,cls⟩ n fn)):CgM P w K mg base k C m (spT ⟨K,cls⟩ n (fnN fn)):=by
 obtain ⟨f,fd,ps,F,h1,h2⟩:=M.ex
 exact ⟨f,fd,ps,F.never,h1,h2⟩
section
variable {X:Cx} {cls:Str→Addr} {W:XW} {e ob:Expr} {es:List Expr} {os:List Opd} {g:Rdr} {gs:List Rdr} {pos p q p' apos:Pos} {o:Opd} {x c f m:Str} {k j i:Nat} {fn:FnT} {io:List Bool} {as:List Acc} {pl:Sem Bool}
end
@[simp] theorem gOwnX_ev (i:Nat) (c m:Str) (fn:FnT) (io:List Bool) (os:List Opd) (ρ:Rho):gOwnX i c m fn io os ρ = match getS ρ i with
 | some (.ins d fs) => if (decide (d = c)&&!(fs.map Prod.fst).contains m) = true then gUser fn (true :: io) (.nm i :: os) ρ else .bad
 | _ => .bad:=rfl
@[simp] theorem sFldSet_ev (i:Nat) (c f:Str) (g:G T) (ρ:Rho):sFldSet i c f g ρ = (g ρ).s fun t ρ1 => match getS ρ1 i with
 | some (.ins d fs) => match fldSet f t fs with
  | some fs2 => if (decide (d = c)&&decide (fs.length < 900)) = true then .nx (ρ1.set i (some (.ins c fs2))) else .bad
  | none => .bad
 | _ => .bad:=rfl
@[simp] theorem sFldAug_ev (i:Nat) (c f:Str) (k:Int→Int→Int) (n:Int) (ρ:Rho):sFldAug i c f k n ρ = match getS ρ i with
 | some (.ins d fs) => match fs.lookup f with
  | some (.d (.int a)) => match fldSet f (.d (.int (k a n))) fs with
   | some fs2 => if (decide (d = c)&&decide (fs.length < 900)) = true then .nx (ρ.set i (some (.ins c fs2))) else .bad
   | none => .bad
  | _ => .bad
 | _ => .bad:=rfl
end Hu
namespace Hu
open PySem L2
section
variable {X:Cx} {cls:Str→Addr} {W:XW} {a b:Expr} {rest:List Expr} {oa ob:Opd} {pos:Pos} {ta tb:TE}
def gOrL (g h:G T):G T:=fun ρ => (g ρ).bind fun t ρ' => match t with
 | .lst [] => h ρ'
 | .lst (x :: xs) => .ok (.lst (x :: xs)) ρ'
 | _ => .bad
end
@[simp] theorem gOrL_ev (g h:G T) (ρ:Rho):gOrL g h ρ = (g ρ).bind fun t ρ' => match t with
 | .lst [] => h ρ'
 | .lst (x :: xs) => .ok (.lst (x :: xs)) ρ'
 | _ => .bad:=rfl
end Hu
namespace Hu
open PySem L2
def gFldG (K:PySem.W.Frag) (ta:TE) (f:Str):TG:=fun y σ H Q => ta σ H fun x H1 => ∃ a C dx es,x = .ref a∧H1 a = some (.ins C dx es)∧Cls K C∧NoAttr K C f∧es.length < 1000∧Q σ (upd H1 a (.ins C dx (putF f y es)))
theorem pg_fld {X:Cx} {o:Expr} {f:Str} {pos:Pos} {ta:TE} (ha:PE X o ta):PG X (.Attribute o f pos) (gFldG X.K ta f):=by
 constructor
 intro pins s σ H v u Q I r h
 have e:assign (.Attribute o f pos) X.env u = (do
  let ov ← holding [u] (eval o X.env)
  standAt pos.atName
  holding [u,ov] (setAttr ov f u)
  release [u,ov] []):=rfl
 rw [e]
 apply wpAny_bind
 apply wpAny_holding
 refine thn (ha.run pins s σ H _ I h) fun ov s1 w => ?_
 obtain ⟨x,H1,I1,rx,a,C,dx,es,ex,ea,c,n,l,q⟩:=w
 cases ex
 have eo:ov = Value.ref a:=rx
 cases eo
 exact wpAny_bind (wpAny_standAt (wpAny_bind (wpAny_holding (setattr_ok I1 ea c n l r fun s3 I3 => wpAny_release ⟨σ,_,I3,q⟩))))
def gFs (K:PySem.W.Frag) (i:Nat):List Str→TGs
 | [] => gNil
 | f :: fl => gCons (gFldG K (tVar i) f) (gFs K i fl)
inductive DFs (X:Cx) (cls:Str→Addr) (i:Nat) (c:Str):List Expr→List Str→Prop
 | nil:DFs X cls i c [] []
 | cons {x f:Str} {p q:Pos} {es:List Expr} {fl:List Str}:X.N[i]? = some x→Vis X.env.scope x→(x == ("__debug__":Str)) = false→(x == ("__classdict__":Str)) = false→NoAttr X.K (cls c) f→DFs X cls i c es fl→DFs X cls i c (.Attribute (.Name x p) f q :: es) (f :: fl)
theorem DFs.pg {X:Cx} {cls:Str→Addr} {i:Nat} {c:Str} {es:List Expr} {fl:List Str} (h:DFs X cls i c es fl):PGs X es (gFs X.K i fl):=by
 induction h with
 | nil => exact pgs_nil
 | cons h1 h2 h3 h4 _ _ ih => exact pgs_cons (pg_fld (pe_var h1 h2 h3 h4)) ih (assignEach_cons rfl)
theorem DFs.no {X:Cx} {cls:Str→Addr} {i:Nat} {c:Str} {es:List Expr} {fl:List Str} (h:DFs X cls i c es fl):∀ f,f∈fl→NoAttr X.K (cls c) f:=by
 induction h with
 | nil => intro f hf; cases hf
 | cons _ _ _ _ n _ ih =>
  intro f hf
  (rcases List.mem_cons.mp hf with rfl | hf)
  ·exact n
  ·exact ih f hf
theorem DFs.len {X:Cx} {cls:Str→Addr} {i:Nat} {c:Str} {es:List Expr} {fl:List Str} (h:DFs X cls i c es fl):es.length = fl.length:=by
 induction h with
 | nil => rfl
 | cons _ _ _ _ _ _ ih => simp [ih]
theorem DFs.nostar {X:Cx} {cls:Str→Addr} {i:Nat} {c:Str} {env:Env} {es:List Expr} {fl:List Str} (h:DFs X cls i c es fl):(assignEach es env).findIdx? (·.1) = none:=by
 induction h with
 | nil => rfl
 | @cons x f p q es fl _ _ _ _ _ _ ih =>
  have e1:assignEach (.Attribute (.Name x p) f q :: es) env = (false,assign (.Attribute (.Name x p) f q) env) :: assignEach es env:=rfl
  rw [e1,List.findIdx?_cons]
  simp [ih]
def fldSets:List Str→List T→List (Str × T)→Option (List (Str × T))
 | [],[],fs => some fs
 | f :: fl,t :: ts,fs => (fldSet f t fs).bind (fldSets fl ts)
 | _,_,_ => none
def sFlds (i:Nat) (c:Str) (fl:List Str) (g:G T):SG:=fun ρ => (g ρ).s fun t ρ1 => match partsOf t,getS ρ1 i with
 | some ts,some (.ins d fs) => match fldSets fl ts fs with
  | some fs2 => if (decide (d = c)&&decide (fs.length < 900)) = true then .nx (ρ1.set i (some (.ins c fs2))) else .bad
  | none => .bad
 | _,_ => .bad
section
variable {X:Cx} {cls:Str→Addr} {W:XW} {i k:Nat} {c:Str} {tp pos:Pos} {e:Expr} {o:Opd} {es:List Expr} {fl:List Str}
end
section
variable {X:Cx} {cls:Str→Addr} {W:XW} {k:Nat} {c f x:Str} {p q tp pos:Pos} {e:Expr} {o:Opd} {es:List Expr} {fl:List Str} {i:Nat}
end
@[simp] theorem sFlds_ev (i:Nat) (c:Str) (fl:List Str) (g:G T) (ρ:Rho):sFlds i c fl g ρ = (g ρ).s fun t ρ1 => match partsOf t,getS ρ1 i with
 | some ts,some (.ins d fs) => match fldSets fl ts fs with
  | some fs2 => if (decide (d = c)&&decide (fs.length < 900)) = true then .nx (ρ1.set i (some (.ins c fs2))) else .bad
  | none => .bad
 | _,_ => .bad:=rfl
end Hu
namespace Hu
open PySem L2
open PyProof.Rows hiding St
section
variable {B:Heap} {l:List Env} {a:Addr} {Z:Obj→Prop} {h h':Heap}
end
section
variable {X:Cx} {x y n:Str} {C C2:Value} {i k:Nat} {body suite:List Stmt} {b₀:Stmt} {np np2 tp pos pos':Pos} {tb:WX→TS} {ts:Addr→Value→Option Addr→TS}
end
section
variable {X:Cx} {cls:Str→Addr} {W:XW} {x n m:Str} {np pos pos' p q r:Pos} {i j:Nat} {st:List Nat} {g:SG} {body:List Stmt} {yes:Str→Bool} {C C2:Value} {y:Str} {k0:Nat} {np2 tp:Pos}
end
end Hu
namespace Hu
open PySem PySem.Spec L2
open PyProof.Rows hiding St
def Has (b:Bool) (h:Heap) (l:Addr) (xs:Array Value):Prop:=if b then h.IsList l xs else h.IsTuple l xs
def Wlk (b:Bool) (h:Heap) (i l:Addr) (k:Nat):Prop:=if b then h.IsListIter i l k else h.IsTupleIter i l k
section
variable {b:Bool} {h h':Heap} {i l:Addr} {k:Nat} {xs:Array Value}
theorem Has.kept (x:Has b h l xs) (g:∀ o,h.get? l = some o→h'.get? l = some o):Has b h' l xs:=by
 cases b <;> exact (let ⟨o,e,r⟩:=x; ⟨o,g o e,r⟩)
theorem Wlk.kept (x:Wlk b h i l k) (g:∀ o,h.get? i = some o→h'.get? i = some o):Wlk b h' i l k:=by
 cases b <;> exact (let ⟨o,e,r⟩:=x; ⟨o,g o e,r⟩)
theorem Has.there (x:Has b h l xs):∃ o,h.get? l = some o:=by
 cases b <;> exact (let ⟨o,e,_⟩:=x; ⟨o,e⟩)
theorem Wlk.there (x:Wlk b h i l k):∃ o vs,h.get? i = some o∧o.data = .fields vs:=by
 cases b <;> exact (let ⟨o,e,_,d⟩:=x; ⟨o,_,e,d⟩)
end
section
variable {prog:Program} {w:World} {A:Around} {E:Value→Shared→Prop} {s:Shared} {b c:Bool}
structure Zst (b c:Bool) (z TI TO i1 i2 l1 l2:Addr) (k:Nat) (xs ys:Array Value) (h:Heap):Prop where
 own:IsZip h z TI TO .none
 its:IsPair h TI (.ref i1) (.ref i2)
 pr:∃ u v,IsPair h TO u v
 w1:Wlk b h i1 l1 k
 w2:Wlk c h i2 l2 k
 h1:Has b h l1 xs
 h2:Has c h l2 ys
section
variable {z TI TO i1 i2 l1 l2:Addr} {k:Nat} {xs ys:Array Value}
end
end
section
variable {prog:Program} {w:World} {A:Around} {E:Value→Shared→Prop} {s:Shared} {b c:Bool}
end
def SqB (K:PySem.W.Frag) (b:Bool) (H:Hp) (a:Addr) (xs:List V):Prop:=if b then SqL K H a xs else SqT K H a xs
theorem SqB.has {X:Cx} {pins:List (Addr × Obj)} {σ:St} {H:Hp} {s:Shared} {b:Bool} {a:Addr} {xs:List V} (I:Inv X pins σ H s) (q:SqB X.K b H a xs):∃ its:List Value,Vals xs its∧Has b s.heap a its.toArray:=by
 cases b with
 | true => exact (let ⟨its,r,p,_⟩:=I.list q; ⟨its,r,p.isList⟩)
 | false => exact (let ⟨its,r,p,_⟩:=I.tuple q; ⟨its,r,p⟩)
theorem SqB.inj {X:Cx} {pins:List (Addr × Obj)} {σ:St} {H:Hp} {s:Shared} {b:Bool} {a:Addr} {xs ys:List V} (I:Inv X pins σ H s) (q:SqB X.K b H a xs) (r:SqB X.K b H a ys):xs = ys:=by
 cases b with
 | true => exact I.list_inj q r
 | false => exact I.tuple_inj q r
theorem five {p q r t u b:Addr} (h:b∈[p,q,r,t,u]):b = p∨b = q∨b = r∨b = t∨b = u:=by simpa using h
section
variable {P:Program} {w:World} {K:PySem.W.Frag} {elts:List Expr} {kk:Nat} {tpos:Pos} {a a2 z TI TO i1 i2:Addr} {b c:Bool}
def ZT (b c:Bool) (z TI TO i1 i2 a a2:Addr) (k:Nat) (h:Heap):Prop:=IsZip h z TI TO .none∧IsPair h TI (.ref i1) (.ref i2)∧(∃ x y,IsPair h TO x y)∧Wlk b h i1 a k∧Wlk c h i2 a2 k
theorem ZT.obj {k:Nat} {h:Heap} (st:ZT b c z TI TO i1 i2 a a2 k h):∀ e∈[z,TI,TO,i1,i2],∃ o,h.get? e = some o∧∀ v,o.data≠.cell v:=by
 obtain ⟨s1,s2,⟨x,y,s3⟩,s4,s5⟩:=st
 obtain ⟨o4,v4,e4,d4⟩:=s4.there
 obtain ⟨o5,v5,e5,d5⟩:=s5.there
 intro e he
 rcases five he with rfl | rfl | rfl | rfl | rfl
 ·exact ⟨_,s1,fun v q => nomatch q⟩
 ·exact ⟨_,s2,fun v q => nomatch q⟩
 ·exact ⟨_,s3,fun v q => nomatch q⟩
 ·exact ⟨o4,e4,fun v q => by rw [d4] at q; cases q⟩
 ·exact ⟨o5,e5,fun v q => by rw [d5] at q; cases q⟩
end
section
variable {X:Cx} {e e2:Expr} {ta:TA} {p pos tpos:Pos} {elts:List Expr} {kk:Nat}
end
end Hu
namespace Hu
open PySem L2
section
variable {X:Cx} {cls:Str→Addr} {W:XW} {e e2 tg:Expr} {o u:Opd} {pos p:Pos}
end
end Hu
namespace Hu
open PySem L2
open PyProof.Rows hiding St
theorem ClN.suite {X:Cx} {y:Str} {v:V} {u:Value} {a:Addr} {pn:List (Addr × Obj)} (h:ClN X y v u):ClN (X.suite a pn) y v u:=by
 cases h with
 | own hg hm hd => exact .own hg hm hd
 | ty hg hm hv hn hd => exact .ty hg hm hv hn hd
theorem ClNs.suite {X:Cx} {a:Addr} {pn:List (Addr × Obj)} {es:List Expr} {vs:List V} {us:List Value} (h:ClNs X es vs us):ClNs (X.suite a pn) es vs us:=by
 induction h with
 | nil => exact .nil
 | cons h _ ih => exact .cons h.suite ih
section
variable {X:Cx} {a D:Addr} {u:Obj}
end
section
variable {X:Cx} {a D:Addr} {u:Obj} {n y:Str} {i kk:Nat} {p p2 p3 p4 pos:Pos} {v:V} {w:Value} {b:Bool} {es:List Expr} {vs:List V} {us:List Value}
end
section
variable {X:Cx} {D:Addr} {n on fn y1 y2:Str} {i o f kk:Nat} {C:Value} {r1 r2 r3 r4 r5 r6 r7 r8 r9 r10 r11 r12 r13 r14 r15 r16 r17 r18 r19 r20 r21:Pos} {v1 v2:V} {w1 w2:Value} {es:List Expr} {vs:List V} {us:List Value} {w:Str} {jj:_}
end
section
variable {X:Cx} {cls:Str→Addr} {W:XW} {n on fn x y1 y2 c0:Str} {i o f kk:Nat} {C:Value} {np pos pos' r1 r2 r3 r4 r5 r6 r7 r8 r9 r10 r11 r12 r13 r14 r15 r16 r17 r18 r19 r20 r21:Pos} {v1 v2:V} {w1 w2:Value} {es:List Expr} {vs:List V} {us:List Value} {w:Str} {jj:_} {st:List Nat} {g:SG} {body:List Stmt}
end
end Hu
namespace Hu
open PySem L2
open PyProof.Rows hiding St
section
variable {K:Par} {F H:Hp}
end
def gLcF (i:Nat) (c fld:Str) (vs:List Nat) (f:T→Rho→Option Rho) (test:G Bool) (elt:G T):G T:=fun ρ => match getS ρ i with
 | some (.ins d fs) => if d = c then (match fs.lookup fld with
  | some (.lst ts) => if (asDs ts).isSome = true then (match gLc vs (fun ρ1 => .ok (Src.it ⟨none,true,ts⟩) ρ1) f test elt (ρ.set i none) with
   | .ok u ρ2 => .ok u (ρ2.set i (some (.ins d fs)))
   | _ => .bad) else .bad
  | _ => .bad) else .bad
 | _ => .bad
section
variable {K:Par} {W:XW} {i:Nat} {c fld:Str} {vs:List Nat} {f:T→Rho→Option Rho} {test:G Bool} {elt:G T} {σ:St} {H:Hp} {Q:VK} {st:List Nat}
end
section
variable {X:Cx} {cls:Str→Addr} {W:XW} {i:Nat} {x c fld:Str} {p pos apos:Pos} {tg elt:Expr} {ifs:List Expr} {f:T→Rho→Option Rho} {test:G Bool} {o:Opd} {st:List Nat} {scope:Scope}
end
@[simp] theorem gLcF_ev (i:Nat) (c fld:Str) (vs:List Nat) (f:T→Rho→Option Rho) (test:G Bool) (elt:G T) (ρ:Rho):gLcF i c fld vs f test elt ρ = match getS ρ i with
 | some (.ins d fs) => if d = c then (match fs.lookup fld with
  | some (.lst ts) => if (asDs ts).isSome = true then (match gLc vs (fun ρ1 => .ok (Src.it ⟨none,true,ts⟩) ρ1) f test elt (ρ.set i none) with
   | .ok u ρ2 => .ok u (ρ2.set i (some (.ins d fs)))
   | _ => .bad) else .bad
  | _ => .bad) else .bad
 | _ => .bad:=rfl
end Hu
namespace Hu
open PySem L2
open PyProof.Rows hiding St
def sAppTo (i j:Nat) (st:List Nat) (g:SG):SG:=fun ρ => match getS ρ i with
 | some (.lst xs) => if (getS ρ j).isSome = true∧i≠j∧i∉st∧j∉st∧xs.length < sizeLine then (match g (ρ.set i none) with
  | .nx ρ2 => match getS ρ2 j with
   | some t => .nx ((ρ2.set i (some (.lst (xs++[t])))).set j none)
   | none => .bad
  | _ => .bad) else .bad
 | _ => .bad
section
variable {X:Cx} {cls:Str→Addr} {W:XW} {i j:Nat} {x y:Str} {p py pos apos epos:Pos} {st st':List Nat} {g g':SG} {s2:Stmt} {rest:List Stmt}
end
@[simp] theorem sAppTo_ev (i j:Nat) (st:List Nat) (g:SG) (ρ:Rho):sAppTo i j st g ρ = match getS ρ i with
 | some (.lst xs) => if (getS ρ j).isSome = true∧i≠j∧i∉st∧j∉st∧xs.length < sizeLine then (match g (ρ.set i none) with
  | .nx ρ2 => match getS ρ2 j with
   | some t => .nx ((ρ2.set i (some (.lst (xs++[t])))).set j none)
   | none => .bad
  | _ => .bad) else .bad
 | _ => .bad:=rfl
end Hu
namespace Hu
open PySem L2
open PyProof.Rows hiding St
section
variable {X:Cx} {cls:Str→Addr} {W:XW} {x:Str} {p pos:Pos} {op:Operator} {k:Int→Int→Int} {e:Expr} {o:Opd}
end
end Hu
namespace Hu
section
open PySem L2 PyProof.Rows
variable {E:Value→Shared→Prop} {A:Around} {prog:Program} {w:World}
end
open PySem L2
section
variable {X:Cx}
end
section
variable {K:Par} {W:XW} {F H F0 H0:Hp} {σ:St} {fp fp0:Nat→List Addr} {Q:VK} {i:Nat} {as:List Acc}
end
section
variable {X:Cx} {cls:Str→Addr} {W:XW} {e ob:Expr} {g:G T} {pos apos:Pos} {i:Nat} {as:List Acc}
end
end Hu
namespace Hu
open PySem L2
section
variable {K:Par} {W:XW}
end
section
variable {X:Cx} {cls:Str→Addr} {W:XW} {e:Expr} {g:G T} {pos p:Pos} {x:Str} {k j:Nat} {fn:FnT}
end
end Hu
namespace Hu
open PySem L2
open PyProof.Rows hiding St
section
variable {X:Cx} {cls:Str→Addr} {W:XW} {a:Expr} {oa:Opd} {p pos:Pos}
def kListK (t:T):Option T:=match t with
 | .dK kvs => some (.lst ((kvs.map fun kv => kD kv.1).map T.d))
 | _ => none
@[simp] theorem kListK_k (kvs:List (Key × T)):kListK (.dK kvs) = some (.lst ((kvs.map fun kv => kD kv.1).map T.d)):=rfl
end
def keyIt (kvs:List (Key × T)):It0:=⟨kvs.length,fun k _ => (kvs[k]?).map fun kv => .d (kD kv.1),fun _ => true,[]⟩
def gLcK (i:Nat) (vs:List Nat) (f:T→Rho→Option Rho) (test:G Bool) (elt:G T):G T:=fun ρ => match getS ρ i with
 | some (.dK kvs) => (match gLc vs (fun ρ1 => .ok (keyIt kvs) ρ1) f test elt (ρ.set i none) with
  | .ok u ρ2 => .ok u (ρ2.set i (some (.dK kvs)))
  | _ => .bad)
 | _ => .bad
section
variable {K:Par} {W:XW} {i:Nat} {vs:List Nat} {f:T→Rho→Option Rho} {test:G Bool} {elt:G T} {σ:St} {H:Hp} {Q:VK} {st:List Nat}
end
section
variable {X:Cx} {cls:Str→Addr} {W:XW} {i:Nat} {x:Str} {p pos:Pos} {tg elt:Expr} {ifs:List Expr} {f:T→Rho→Option Rho} {test:G Bool} {o:Opd} {st:List Nat} {scope:Scope}
end
@[simp] theorem gLcK_ev (i:Nat) (vs:List Nat) (f:T→Rho→Option Rho) (test:G Bool) (elt:G T) (ρ:Rho):gLcK i vs f test elt ρ = match getS ρ i with
 | some (.dK kvs) => (match gLc vs (fun ρ1 => .ok (keyIt kvs) ρ1) f test elt (ρ.set i none) with
  | .ok u ρ2 => .ok u (ρ2.set i (some (.dK kvs)))
  | _ => .bad)
 | _ => .bad:=rfl
end Hu
namespace Hu
open PySem L2
open PyProof.Rows hiding St
def sPutLI (i:Nat) (as:List Acc) (j:Nat) (x:D) (g:G T):SG:=fun ρ => (g ρ).s fun t ρ1 => match getS ρ1 i with
 | none => .bad
 | some w => match pathOf ρ1 as w with
  | none => .bad
  | some p => match (getS ρ1 j).bind fun u => kIxA u (.d x) with
   | none => .bad
   | some kt => match putA t (getP p w) [kt] with
    | some u => .nx (ρ1.set i (some (putP p w u)))
    | none => .bad
section
variable {X:Cx} {cls:Str→Addr} {W:XW} {e a l n:Expr} {pos p p2 p3 pt:Pos} {o:Opd} {k i j:Nat} {as:List Acc} {y:V} {x:D}
end
@[simp] theorem sPutLI_ev (i:Nat) (as:List Acc) (j:Nat) (x:D) (g:G T) (ρ:Rho):sPutLI i as j x g ρ = (g ρ).s fun t ρ1 => match getS ρ1 i with
 | none => .bad
 | some w => match pathOf ρ1 as w with
  | none => .bad
  | some p => match (getS ρ1 j).bind fun u => kIxA u (.d x) with
   | none => .bad
   | some kt => match putA t (getP p w) [kt] with
    | some u => .nx (ρ1.set i (some (putP p w u)))
    | none => .bad:=rfl
end Hu
namespace Hu
open PySem L2
section
variable {X:Cx} {cls:Str→Addr} {W:XW} {i:Nat}
def frzF (i:Nat) (c f:Str) (ρ:Rho):Rho:=match getS ρ i with
 | some t => match pathOf ρ [.fld c f] t with
  | some p => match getP p t with
   | some u => match frzOf u with
    | some x => ρ.set i (some (putP p t (.d x)))
    | none => ρ
   | none => ρ
  | none => ρ
 | none => ρ
def sFzF (i:Nat) (c f:Str) (g:SG):SG:=fun ρ => match g ρ with
 | .nx ρ' => .nx (frzF i c f ρ')
 | o => o
end
@[simp] theorem sFzF_ev (i:Nat) (c f:Str) (g:SG) (ρ:Rho):sFzF i c f g ρ = match g ρ with
 | .nx ρ' => .nx (frzF i c f ρ')
 | o => o:=rfl
end Hu
namespace Hu
open L2 PySem PySem.Spec PyProof.Rows
def kMulU (a b:T):Option T:=match tupOf a,b with
 | some xs,.d (.int k) => if (decide (1≤k)&&decide (k≤1000)&&decide (xs.length≤1000)) = true then some (.d (.tuple (List.replicate k.toNat xs).flatten)) else none
 | _,_ => none
section
variable {X:Cx} {cls:Str→Addr} {W:XW} {a b:Expr} {oa ob:Opd} {pos:Pos}
end
@[simp] theorem kMulU_ti (xs:List D) (k:Int):kMulU (.d (.tuple xs)) (.d (.int k)) = if (decide (1≤k)&&decide (k≤1000)&&decide (xs.length≤1000)) = true then some (.d (.tuple (List.replicate k.toNat xs).flatten)) else none:=rfl
end Hu
namespace Hu
open L2 PySem PySem.Spec PyProof.Rows
section
variable {K:Par} {W:XW}
end
section
variable {X:Cx} {cls:Str→Addr} {W:XW} {ob e:Expr} {g:G T} {o2:Opd} {pos apos:Pos} {c m:Str} {k j:Nat} {fn:FnT} {pl:Sem Bool}
end
end Hu
namespace Hu
open L2 PySem PySem.Spec PyProof.Rows
section
variable {prog:Program} {w:World} {s:Shared} {A:Around} {E:Value→Shared→Prop}
def stays (s s':Shared):Prop:=∃ h' tk,s' = { s with heap:=h',toks:=tk }∧∀ b o,s.heap.get? b = some o→h'.get? b = some o
end
section
variable {X:Cx}
variable {e e2:Expr} {t:TA} {p pos kp lp dp:Pos}
end
section
variable {X:Cx} {cls:Str→Addr} {W:XW} {a e2:Expr} {o:Opd} {p pos kp lp dp:Pos} {k:Nat}
end
section
variable {X:Cx} {cls:Str→Addr} {W:XW} {p pos:Pos} {x:Str} {k j:Nat} {fn:FnT}
end
end Hu
namespace Hu
open L2 PySem PySem.Spec PyProof.Rows
section
variable {K:Par} {W:XW}
end
section
variable {X:Cx} {cls:Str→Addr} {W:XW} {ob e:Expr} {g g2:G T} {pos p apos:Pos} {x c m:Str} {k j:Nat} {fn:FnT} {pl:Sem Bool}
end
end Hu
namespace Hu
open PySem L2
open PyProof.Rows hiding St
structure ExB (K:PySem.W.Frag) (B:Addr):Prop where
 rd:PySem.W.readsIn K B (.type "type") = true
 ga:PySem.W.specialIn K (.ref B) "__getattribute__" = some (some (.builtin "type.__getattribute__"))
 ini:PySem.W.findCls K (.ref B) (.type "type") "__init__" = some (.val (.builtin "ValueError.__init__"))
section
variable {X:Cx} {e:Expr} {es:List Expr} {ta:TA} {p1 p2 pos:Pos} {y:Str} {B:Addr}
end
def spI (K:PySem.W.Frag) (C:Addr) (f:Str):Sp:=fun vs H Q _ => ∃ (a:Addr) (v:V),vs = [.ref a,v]∧OexC K C∧PySem.W.findIn K (.ref C) f = some none∧H a = some (exo a C none)∧∀ dx,H dx = none→dx≠a→Q .non (upd (upd H dx (exd dx [(f,v)])) a (exo a C (some dx)))
structure ExI (P:Program) (w:World) (K:PySem.W.Frag) (mg:Str→Option Value) (base:Heap) (cls:Str→Addr) (c f:Str):Prop where
 g:mg c = some (.ref (cls c))
 o:OexC K (cls c)
 no:PySem.W.findIn K (.ref (cls c)) f = some none
 ini:∃ (fI:Addr) (fd:FuncData) (ps:List Str),PySem.W.findIn K (.ref (cls c)) "__init__" = some (some (.ref fI))∧PySem.W.typeIn K (.ref fI) = some (.type "function")∧FnOk P w K mg base CX0 1 fI fd ps (spI K (cls c) f)∧Binds K fd ps []
section
variable {K:Par} {W:XW} {st:List Nat} {F H:Hp} {σ:St} {fp:Nat→List Addr} {D:Ends} {c f:Str}
end
section
variable {X:Cx} {cls:Str→Addr} {W:XW} {x f:Str} {p pos pos':Pos} {e:Expr} {oa:Opd}
end
structure ExR (K:PySem.W.Frag) (C:Addr) (f:Str):Prop where
 x:XfC K C
 no:PySem.W.findIn K (.ref C) f = some none
section
variable {X:Cx} {e:Expr} {te:TE} {n:Str} {pos:Pos}
end
section
variable {X:Cx} {cls:Str→Addr} {W:XW} {n:Str} {pos:Pos} {a:Expr} {oa:Opd} {yes:Str→Bool}
end
end Hu
namespace Hu
open PySem L2
open PyProof.Rows hiding St
def kSortDn (t z:T):Option T:=match z with
 | .d (.bool true) => (listOf t).bind fun ds => (asInts ds).map fun ns => .lst (((sortI ns).reverse.map PyData.int).map T.d)
 | _ => none
section
variable {X:Cx} {cls:Str→Addr} {W:XW} {a b:Expr} {oa ob':Opd} {p kp pos:Pos}
end
@[simp] theorem kSortDn_ev (t:T):kSortDn t (.d (.bool true)) = (listOf t).bind fun ds => (asInts ds).map fun ns => .lst (((sortI ns).reverse.map PyData.int).map T.d):=rfl
end Hu
namespace Hu
open PySem L2
open PyProof.Rows hiding St
def kReprV (t:T):Option T:=match datOf t with
 | some .none => some (.d (.str "None"))
 | some (.bool b) => some (.d (.str (if b then "True" else "False")))
 | some (.int i) => if i.natAbs.log2 < 1920 then some (.d (.str (toString i))) else none
 | some (.str z) => if (reprText z).length≤sizeLine then some (.d (.str (reprText z))) else none
 | some (.list xs) => if shwOk (.list xs) = true then some (.d (.str (PyData.shown (.list xs)))) else none
 | some (.tuple xs) => if shwOk (.tuple xs) = true then some (.d (.str (PyData.shown (.tuple xs)))) else none
 | _ => none
section
variable {X:Cx} {cls:Str→Addr} {W:XW} {a b:Expr} {oa ob:Opd} {pos p p2 p3:Pos} {k:Nat}
end
end Hu
namespace Hu
open PySem L2
abbrev iT (i:Int):T:=.d (.int i)
abbrev bT (b:Bool):T:=.d (.bool b)
section
variable {α β:Type} {ρ:Rho} {t u:T}
@[simp] theorem bind_ok (a:α) (ρ:Rho) (f:α→Rho→Out β):(Out.ok a ρ).bind f = f a ρ:=rfl
@[simp] theorem s_ok (a:α) (ρ:Rho) (f:α→Rho→SOut):(Out.ok a ρ).s f = f a ρ:=rfl
@[simp] theorem bind_bad (f:α→Rho→Out β):(Out.bad:Out α).bind f = .bad:=rfl
@[simp] theorem getS_zero (u:Option T) (r:Rho):getS (u :: r) 0 = u:=by simp [getS]
@[simp] theorem getS_succ (u:Option T) (r:Rho) (n:Nat):getS (u :: r) (n + 1) = getS r n:=by simp [getS]
@[simp] theorem getS_nil (n:Nat):getS [] n = none:=by simp [getS]
@[simp] theorem run_nm (i:Nat):(Opd.nm i).run ρ = match getS ρ i with
 | some _ => .ok none ρ
 | none => .bad:=rfl
@[simp] theorem run_con (v:V) (x:D):(Opd.con v x).run ρ = .ok (some (.d x)) ρ:=rfl
@[simp] theorem run_val (g:G T):(Opd.val g).run ρ = (g ρ).bind fun t ρ' => .ok (some t) ρ':=rfl
@[simp] theorem run_pk (g:G T):(Opd.pk g).run ρ = (g ρ).bind fun t ρ' => .ok (some t) ρ':=rfl
@[simp] theorem run_iv (g:G T):(Opd.iv g).run ρ = (g ρ).bind fun t ρ' => match t with
  | .d (.int i) => .ok (some (.d (.int i))) ρ'
  | _ => .bad:=rfl
@[simp] theorem safe_nm (i:Nat) (x:Option T) (os:List Opd):Opd.safe (.nm i) x os = true:=rfl
@[simp] theorem safe_con (v:V) (d:D) (x:Option T) (os:List Opd):Opd.safe (.con v d) x os = true:=rfl
@[simp] theorem safe_val (g:G T) (x:Option T) (os:List Opd):Opd.safe (.val g) x os = true:=rfl
@[simp] theorem safe_iv (g:G T) (x:Option T) (os:List Opd):Opd.safe (.iv g) x os = true:=rfl
@[simp] theorem safe_pk (g:G T) (x:Option T) (os:List Opd):Opd.safe (.pk g) x os = (isD x||os.all Opd.still):=rfl
@[simp] theorem still_nm (i:Nat):Opd.still (.nm i) = true:=rfl
@[simp] theorem still_con (v:V) (d:D):Opd.still (.con v d) = true:=rfl
@[simp] theorem still_val (g:G T):Opd.still (.val g) = false:=rfl
@[simp] theorem still_pk (g:G T):Opd.still (.pk g) = false:=rfl
@[simp] theorem still_iv (g:G T):Opd.still (.iv g) = false:=rfl
@[simp] theorem isD_d (x:D):isD (some (.d x)) = true:=rfl
@[simp] theorem runs_nil (ρ:Rho):runs [] ρ = .ok [] ρ:=rfl
@[simp] theorem runs_cons (o:Opd) (os:List Opd) (ρ:Rho):runs (o :: os) ρ = (o.run ρ).bind fun x ρ1 => if o.safe x os = true then (runs os ρ1).bind fun xs ρ2 => .ok (x :: xs) ρ2 else .bad:=rfl
@[simp] theorem fins_nil (xs:List (Option T)) (ρ:Rho):fins [] xs ρ = some []:=by cases xs <;> rfl
@[simp] theorem fins_nm (i:Nat) (os:List Opd) (x:Option T) (xs:List (Option T)) (ρ:Rho):fins (.nm i :: os) (x :: xs) ρ = match getS ρ i,fins os xs ρ with
  | some t,some ts => some (t :: ts)
  | _,_ => none:=rfl
@[simp] theorem fins_con (v:V) (d:D) (os:List Opd) (t:T) (xs:List (Option T)) (ρ:Rho):fins (.con v d :: os) (some t :: xs) ρ = match fins os xs ρ with
  | some ts => some (t :: ts)
  | none => none:=rfl
@[simp] theorem fins_val (g:G T) (os:List Opd) (t:T) (xs:List (Option T)) (ρ:Rho):fins (.val g :: os) (some t :: xs) ρ = match fins os xs ρ with
  | some ts => some (t :: ts)
  | none => none:=rfl
@[simp] theorem fins_pk (g:G T) (os:List Opd) (t:T) (xs:List (Option T)) (ρ:Rho):fins (.pk g :: os) (some t :: xs) ρ = match fins os xs ρ with
  | some ts => some (t :: ts)
  | none => none:=rfl
@[simp] theorem fins_iv (g:G T) (os:List Opd) (t:T) (xs:List (Option T)) (ρ:Rho):fins (.iv g :: os) (some t :: xs) ρ = match fins os xs ρ with
  | some ts => some (t :: ts)
  | none => none:=rfl
@[simp] theorem gOs_ev (os:List Opd) (k:List T→G α) (ρ:Rho):gOs os k ρ = (runs os ρ).bind fun xs ρ' => match fins os xs ρ' with
 | some ts => k ts ρ'
 | none => .bad:=rfl
@[simp] theorem kP_ev (kk:List T→Option T) (ts:List T) (ρ:Rho):kP kk ts ρ = match kk ts with
 | some t => .ok t ρ
 | none => .bad:=rfl
@[simp] theorem kB_ev (kk:List T→Option Bool) (ts:List T) (ρ:Rho):kB kk ts ρ = match kk ts with
 | some t => .ok t ρ
 | none => .bad:=rfl
@[simp] theorem kk1_ev (k:T→Option T) (a:T):kk1 k [a] = k a:=rfl
@[simp] theorem kk2_ev (k:T→T→Option T) (a b:T):kk2 k [a,b] = k a b:=rfl
@[simp] theorem kkT_ev (a:T):kkT [a] = kTru a:=rfl
@[simp] theorem vg_nm_d (i:Nat) (x:D) (h:getS ρ i = some (.d x)):(Opd.nm i).vg ρ = .ok (.d x) ρ:=by simp [Opd.vg,gVar,h]
@[simp] theorem vg_nm (i:Nat) (ρ:Rho):(Opd.nm i).vg ρ = match getS ρ i with
 | some (.d x) => .ok (.d x) ρ
 | some t => .ok t (ρ.set i none)
 | none => .bad:=rfl
@[simp] theorem vg_con (v:V) (x:D) (ρ:Rho):(Opd.con v x).vg ρ = .ok (.d x) ρ:=rfl
@[simp] theorem vg_val (g:G T):(Opd.val g).vg = g:=rfl
@[simp] theorem vg_pk (g:G T) (ρ:Rho):(Opd.pk g).vg ρ = (g ρ).bind fun t ρ' => match t with
 | .d x => .ok (.d x) ρ'
 | _ => .bad:=rfl
@[simp] theorem vg_iv (g:G T) (ρ:Rho):(Opd.iv g).vg ρ = (g ρ).bind fun t ρ' => match t with
  | .d (.int i) => .ok (.d (.int i)) ρ'
  | _ => .bad:=rfl
@[simp] theorem lt_nm (i:Nat):(Opd.nm i).lt = .nm i:=rfl
@[simp] theorem lt_con (v:V) (x:D):(Opd.con v x).lt = .con v x:=rfl
@[simp] theorem lt_val (g:G T):(Opd.val g).lt = .val g:=rfl
@[simp] theorem lt_pk (g:G T):(Opd.pk g).lt = .val (Opd.pk g).vg:=rfl
@[simp] theorem lt_iv (g:G T):(Opd.iv g).lt = .val (Opd.iv g).vg:=rfl
@[simp] theorem gP2_ev (k:T→T→Option T) (a b:Opd) (ρ:Rho):gP2 k a b ρ = gOs [a,b] (kP (kk2 k)) ρ:=rfl
@[simp] theorem gP1_ev (k:T→Option T) (a:Opd) (ρ:Rho):gP1 k a ρ = gOs [a] (kP (kk1 k)) ρ:=rfl
@[simp] theorem gCall_ev (kk:List T→Option T) (os:List Opd) (ρ:Rho):gCall kk os ρ = gOs os (kP kk) ρ:=rfl
@[simp] theorem gTru_ev (o:Opd) (ρ:Rho):gTru o ρ = gOs [o] (kB kkT) ρ:=rfl
@[simp] theorem gTest_ev (g:G T) (ρ:Rho):gTest g ρ = (g ρ).bind fun t ρ' => match t with
 | .d (.bool k) => .ok k ρ'
 | _ => .bad:=by
  unfold gTest
  congr 1
@[simp] theorem gNotB_ev (g:G Bool) (ρ:Rho):gNotB g ρ = (g ρ).bind fun k ρ' => .ok (!k) ρ':=rfl
@[simp] theorem gAndB_ev (g h:G Bool) (ρ:Rho):gAndB g h ρ = (g ρ).bind fun k ρ' => if k = true then h ρ' else .ok false ρ':=rfl
@[simp] theorem gOrB_ev (g h:G Bool) (ρ:Rho):gOrB g h ρ = (g ρ).bind fun k ρ' => if k = true then .ok true ρ' else h ρ':=rfl
@[simp] theorem gAndV_ev (g h:G T) (ρ:Rho):gAndV g h ρ = (gTest g ρ).bind fun k ρ' => if k = true then h ρ' else .ok (.d (.bool false)) ρ':=rfl
@[simp] theorem gOrV_ev (g h:G T) (ρ:Rho):gOrV g h ρ = (gTest g ρ).bind fun k ρ' => if k = true then .ok (.d (.bool true)) ρ' else h ρ':=rfl
@[simp] theorem gIf_ev (t:G Bool) (a b:G T) (ρ:Rho):gIf t a b ρ = (t ρ).bind fun k ρ' => if k = true then a ρ' else b ρ':=rfl
@[simp] theorem gYes_ev (ρ:Rho):gYes ρ = .ok true ρ:=rfl
@[simp] theorem gInt_ev (g:G T) (ρ:Rho):gInt g ρ = (g ρ).bind fun t ρ' => match t with
 | .d (.int i) => .ok i ρ'
 | _ => .bad:=rfl
@[simp] theorem gCh_one (k:Int→Int→Bool) (g:G Int) (i:Int) (ρ:Rho):gCh [k] [g] i ρ = (g ρ).bind fun j ρ' => .ok (k i j) ρ':=rfl
@[simp] theorem gCh_more (k k2:Int→Int→Bool) (ks:List (Int→Int→Bool)) (g g2:G Int) (gs:List (G Int)) (i:Int) (ρ:Rho):gCh (k :: k2 :: ks) (g :: g2 :: gs) i ρ = (g ρ).bind fun j ρ' => if k i j = true then gCh (k2 :: ks) (g2 :: gs) j ρ' else .ok false ρ':=rfl
@[simp] theorem gChn_ev (g:G T) (ks:List (Int→Int→Bool)) (gs:List (G Int)) (ρ:Rho):gChn g ks gs ρ = (gInt g ρ).bind fun i ρ' => gCh ks gs i ρ':=rfl
@[simp] theorem gChV_ev (g:G T) (ks:List (Int→Int→Bool)) (gs:List (G Int)) (ρ:Rho):gChV g ks gs ρ = (gChn g ks gs ρ).bind fun k ρ' => .ok (.d (.bool k)) ρ':=rfl
@[simp] theorem gLst_ev (os:List Opd) (ρ:Rho):gLst os ρ = gOs (os.map fun o => .val o.vg) kLst ρ:=rfl
@[simp] theorem gTup_ev (os:List Opd) (ρ:Rho):gTup os ρ = gOs (os.map fun o => .val o.vg) kTup ρ:=rfl
@[simp] theorem kLst_ev (ts:List T) (ρ:Rho):kLst ts ρ = if ts.length≤sizeLine then .ok (.lst ts) ρ else .bad:=rfl
@[simp] theorem kTup_ev (ts:List T) (ρ:Rho):kTup ts ρ = if ts.length≤sizeLine then .ok (mkTup ts) ρ else .bad:=rfl
@[simp] theorem asDs_nil:asDs [] = some []:=rfl
@[simp] theorem asDs_cons (x:D) (ts:List T):asDs (.d x :: ts) = (asDs ts).map (x :: ·):=rfl
@[simp] theorem asDs_lst (x:List T) (ts:List T):asDs (.lst x :: ts) = none:=rfl
@[simp] theorem asDs_mapd (f:α→D) (l:List α):asDs (l.map fun x => T.d (f x)) = some (l.map f):=by
 have:=asDs_map (l.map f)
 rw [List.map_map] at this
 exact this
@[simp] theorem mkTup_ev (ts:List T):mkTup ts = match asDs ts with
 | some ds => .d (.tuple ds)
 | none => .tup ts:=rfl
@[simp] theorem gIx_ev (k:T→T→Option T) (a b:Opd) (ρ:Rho):gIx k a b ρ = gOs [a,b] (kP (kk2 k)) ρ:=rfl
@[simp] theorem oIx_val (k:T→T→Option T) (g:G T) (b:Opd):oIx k (.val g) b = .val (gIx k (.val g) b):=rfl
@[simp] theorem oIx_nm (k:T→T→Option T) (i:Nat) (b:Opd):oIx k (.nm i) b = .pk (gIx k (.nm i) b):=rfl
@[simp] theorem oIx_pk (k:T→T→Option T) (g:G T) (b:Opd):oIx k (.pk g) b = .pk (gIx k (.pk g) b):=rfl
@[simp] theorem oIx_con (k:T→T→Option T) (v:V) (x:D) (b:Opd):oIx k (.con v x) b = .pk (gIx k (.con v x) b):=rfl
@[simp] theorem kIxA_ev (a b:T):kIxA a b = (kIx a b).or (kIxK a b):=rfl
@[simp] theorem sSeq_ev (g h:SG) (ρ:Rho):sSeq g h ρ = match g ρ with
 | .nx ρ' => h ρ'
 | o => o:=rfl
@[simp] theorem sDrop_ev (g:G T) (ρ:Rho):sDrop g ρ = (g ρ).s fun _ ρ' => .nx ρ':=rfl
@[simp] theorem sRet_ev (g:G T) (ρ:Rho):sRet g ρ = (g ρ).s fun t ρ' => .rt t ρ':=rfl
@[simp] theorem sRetN_ev (ρ:Rho):sRetN ρ = .rt (.d .none) ρ:=rfl
@[simp] theorem sPass_ev (ρ:Rho):sPass ρ = .nx ρ:=rfl
@[simp] theorem sCont_ev (ρ:Rho):sCont ρ = .ct ρ:=rfl
@[simp] theorem sBad_ev (ρ:Rho):sBad ρ = .bad:=rfl
@[simp] theorem sIf_ev (c:G Bool) (g h:SG) (ρ:Rho):sIf c g h ρ = (c ρ).s fun k ρ' => if k = true then g ρ' else h ρ':=rfl
@[simp] theorem setS_ev (i:Nat) (t:T) (ρ:Rho):setS i t ρ = if i < ρ.length then some (ρ.set i (some t)) else none:=rfl
@[simp] theorem sSet_ev (i:Nat) (g:G T) (ρ:Rho):sSet i g ρ = (g ρ).s fun t ρ' => match setS i t ρ' with
 | some ρ2 => .nx ρ2
 | none => .bad:=rfl
@[simp] theorem sAsg_ev (f:T→Rho→Option Rho) (g:G T) (ρ:Rho):sAsg f g ρ = (g ρ).s fun t ρ' => match f t ρ' with
 | some ρ2 => .nx ρ2
 | none => .bad:=rfl
@[simp] theorem setAll_nil (ρ:Rho):setAll [] [] ρ = some ρ:=rfl
@[simp] theorem setAll_cons (f:T→Rho→Option Rho) (fs:List (T→Rho→Option Rho)) (t:T) (ts:List T) (ρ:Rho):setAll (f :: fs) (t :: ts) ρ = (f t ρ).bind fun ρ' => setAll fs ts ρ':=rfl
@[simp] theorem partsOf_d (ds:List D):partsOf (.d (.tuple ds)) = some (ds.map T.d):=rfl
@[simp] theorem partsOf_t (ts:List T):partsOf (.tup ts) = some ts:=rfl
@[simp] theorem setTup_ev (fs:List (T→Rho→Option Rho)) (t:T) (ρ:Rho):setTup fs t ρ = (partsOf t).bind fun ts => setAll fs ts ρ:=rfl
@[simp] theorem setRs_nil (ρ:Rho):setRs [] [] ρ = some ρ:=rfl
@[simp] theorem setRs_cons (i:Nat) (is:List Nat) (t:T) (ts:List T) (ρ:Rho):setRs (i :: is) (t :: ts) ρ = (setS i t ρ).bind fun ρ' => setRs is ts ρ':=rfl
@[simp] theorem sPar_ev (is:List Nat) (gs:List (G T)) (ρ:Rho):sPar is gs ρ = (gOs (gs.map .val) (fun ts ρ' => match setRs is ts ρ' with
 | some ρ2 => .ok () ρ2
 | none => .bad) ρ).s fun _ ρ' => .nx ρ':=rfl
@[simp] theorem sAug_ev (i:Nat) (k:Int→Int→Int) (g:G T) (ρ:Rho):sAug i k g ρ = match getS ρ i with
 | some (.d (.int a)) => (gInt g ρ).s fun b ρ' => match setS i (.d (.int (k a b))) ρ' with
   | some ρ2 => .nx ρ2
   | none => .bad
 | _ => .bad:=rfl
@[simp] theorem sFz_ev (i:Nat) (g:SG) (ρ:Rho):sFz i g ρ = match g ρ with
 | .nx ρ' => .nx (frzR i ρ')
 | o => o:=rfl
@[simp] theorem frzR_ev (i:Nat) (ρ:Rho):frzR i ρ = match getS ρ i with
 | some t => match frzOf t with
  | some x => ρ.set i (some (.d x))
  | none => ρ
 | none => ρ:=rfl
@[simp] theorem gD1_ev (ok ov:Opd) (ρ:Rho):gD1 ok ov ρ = gOs ([ok.vg,ov.vg].map Opd.val) kD1 ρ:=rfl
@[simp] theorem kD1_ev (kt t:T) (ρ:Rho):kD1 [kt,t] ρ = match keyOf kt with
 | some k => .ok (.dK [(k,t)]) ρ
 | none => .bad:=rfl
end
end Hu
namespace Hu
open PySem L2
section
variable {α β:Type} {ρ:Rho} {t u:T}
@[simp] theorem frzOf_d (x:D):frzOf (.d x) = some x:=rfl
@[simp] theorem frzOf_lst (ts:List T):frzOf (.lst ts) = (frzsOf ts).map .list:=rfl
@[simp] theorem frzOf_tup (ts:List T):frzOf (.tup ts) = (frzsOf ts).map .tuple:=rfl
@[simp] theorem frzsOf_nil:frzsOf [] = some []:=rfl
@[simp] theorem frzsOf_cons (t:T) (ts:List T):frzsOf (t :: ts) = match frzOf t,frzsOf ts with
 | some x,some xs => some (x :: xs)
 | _,_ => none:=rfl
@[simp] theorem frzsOf_map (f:α→D) (l:List α):frzsOf (l.map fun x => T.d (f x)) = some (l.map f):=by
 induction l with
 | nil => rfl
 | cons x r ih => simp [ih]
@[simp] theorem frzT_d (x:D):frzT (.d x) = some (.d x):=rfl
@[simp] theorem frzT_scr (ns:List Int):frzT (.scr ns) = some (.scr ns):=rfl
@[simp] theorem frzT_lst (ts:List T):frzT (.lst ts) = (frzsOf ts).map fun l => .d (.list l):=by
 show (frzOf (.lst ts)).map T.d = _
 rw [frzOf_lst,Option.map_map]
 rfl
@[simp] theorem frzT_tup (ts:List T):frzT (.tup ts) = (frzsOf ts).map fun l => .d (.tuple l):=by
 show (frzOf (.tup ts)).map T.d = _
 rw [frzOf_tup,Option.map_map]
 rfl
@[simp] theorem argT_nil:argT [] [] = some []:=rfl
@[simp] theorem argT_t (io:List Bool) (t:T) (ts:List T):argT (true :: io) (t :: ts) = (argT io ts).map (t :: ·):=rfl
@[simp] theorem argT_f (io:List Bool) (t:T) (ts:List T):argT (false :: io) (t :: ts) = match frzT t,argT io ts with
 | some x,some xs => some (x :: xs)
 | _,_ => none:=rfl
@[simp] theorem indep_d (x:D):indep (.d x) = imm x:=rfl
@[simp] theorem indep_lst (ts:List T):indep (.lst ts) = indepA ts:=rfl
@[simp] theorem indep_tup (ts:List T):indep (.tup ts) = indepA ts:=rfl
@[simp] theorem indepA_nil:indepA [] = true:=rfl
@[simp] theorem indepA_cons (t:T) (ts:List T):indepA (t :: ts) = (indep t&&indepA ts):=rfl
@[simp] theorem indepA_append (ts us:List T):indepA (ts++us) = (indepA ts&&indepA us):=by
 induction ts with
 | nil => simp
 | cons t r ih => simp [ih,Bool.and_assoc]
@[simp] theorem imm_int (i:Int):imm (.int i) = true:=rfl
@[simp] theorem imm_bool (i:Bool):imm (.bool i) = true:=rfl
@[simp] theorem imm_str (i:Str):imm (.str i) = true:=rfl
@[simp] theorem imm_none:imm .none = true:=rfl
@[simp] theorem imm_tuple (xs:List D):imm (.tuple xs) = immA xs:=rfl
@[simp] theorem immA_nil:immA [] = true:=rfl
@[simp] theorem immA_cons (x:D) (xs:List D):immA (x :: xs) = (imm x&&immA xs):=rfl
theorem immA_map {f:α→D} (h:∀ x,imm (f x) = true) (l:List α):immA (l.map f) = true:=by
 induction l with
 | nil => rfl
 | cons x r ih => simp [h,ih]
theorem indepA_map {f:α→D} (h:∀ x,imm (f x) = true) (l:List α):indepA (l.map fun x => T.d (f x)) = true:=by
 induction l with
 | nil => rfl
 | cons x r ih => simp [h,ih]
@[simp] theorem immA_ints (l:List Int):immA (l.map PyData.int) = true:=immA_map (fun _ => rfl) l
@[simp] theorem indepA_ints (l:List Int):indepA (l.map fun x => T.d (PyData.int x)) = true:=indepA_map (fun _ => rfl) l
@[simp] theorem indepO_some (t:T):indepO (some t) = indep t:=rfl
@[simp] theorem indepO_none:indepO none = true:=rfl
@[simp] theorem ioC_nil:ioC [] [] = true:=rfl
@[simp] theorem ioC_nt (j:Nat) (os:List Opd) (io:List Bool):ioC (.nm j :: os) (true :: io) = ioC os io:=rfl
@[simp] theorem ioC_nf (j:Nat) (os:List Opd) (io:List Bool):ioC (.nm j :: os) (false :: io) = ioC os io:=rfl
@[simp] theorem ioC_cf (v:V) (x:D) (os:List Opd) (io:List Bool):ioC (.con v x :: os) (false :: io) = ioC os io:=rfl
@[simp] theorem ioC_vf (g:G T) (os:List Opd) (io:List Bool):ioC (.val g :: os) (false :: io) = ioC os io:=rfl
@[simp] theorem borS_nt (j:Nat) (os:List Opd) (io:List Bool):borS (.nm j :: os) (true :: io) = borS os io:=rfl
@[simp] theorem borS_nf (j:Nat) (os:List Opd) (io:List Bool):borS (.nm j :: os) (false :: io) = j :: borS os io:=rfl
@[simp] theorem borS_cf (v:V) (x:D) (os:List Opd) (io:List Bool):borS (.con v x :: os) (false :: io) = borS os io:=rfl
@[simp] theorem borS_vf (g:G T) (os:List Opd) (io:List Bool):borS (.val g :: os) (false :: io) = borS os io:=rfl
@[simp] theorem borS_nil:borS [] [] = []:=rfl
def noT (io:List Bool):Bool:=io.all (!·)
@[simp] theorem noT_nil:noT [] = true:=rfl
@[simp] theorem noT_cons (b:Bool) (io:List Bool):noT (b :: io) = (!b&&noT io):=rfl
theorem noT_at {io:List Bool} (h:noT io = true) (i:Nat):io[i]?≠some true:=fun e => by
 have:=List.all_eq_true.mp h true (List.mem_of_getElem? e)
 simp at this
theorem lentAt_no {os:List Opd} {io:List Bool} (h:noT io = true) (i:Nat):lentAt os io i = none:=by
 unfold lentAt
 have:=noT_at h i
 split
 ·rename_i e _ e2
  exact absurd e2 this
 ·rfl
@[simp] theorem lendC_no {os:List Opd} {io:List Bool} (h:noT io = true):lendC os io = ioC os io:=by
 unfold lendC
 have e1:((List.range os.length).all fun i => (List.range os.length).all fun k => i == k||lentAt os io i == none||lentAt os io i != lentAt os io k) = true:=by
  simp [lentAt_no h]
 have e2:((borS os io).all fun j => (List.range os.length).all fun i => lentAt os io i != some j) = true:=by
  rw [List.all_eq_true]
  intro j _
  rw [List.all_eq_true]
  intro i _
  rw [lentAt_no h]
  rfl
 rw [e1,e2]
 simp
theorem lentAt_zero {j:Nat} {os:List Opd} {io:List Bool}:lentAt (.nm j :: os) (true :: io) 0 = some j:=by simp [lentAt]
theorem lentAt_succ {o:Opd} {os:List Opd} {b:Bool} {io:List Bool} (i:Nat):lentAt (o :: os) (b :: io) (i + 1) = lentAt os io i:=by simp [lentAt]
@[simp] theorem lendC_one {j:Nat} {os:List Opd} {io:List Bool} (h:noT io = true):lendC (.nm j :: os) (true :: io) = (ioC os io&&!(borS os io).contains j):=by
 have la:∀ i,lentAt (.nm j :: os) (true :: io) i = if i = 0 then some j else none:=fun i => by
  cases i with
  | zero => simp [lentAt_zero]
  | succ i => simp [lentAt_succ,lentAt_no h]
 unfold lendC
 simp only [la,ioC_nt,borS_nt]
 rw [Bool.eq_iff_iff]
 simp only [Bool.and_eq_true,List.all_eq_true,Bool.or_eq_true,beq_iff_eq,List.mem_range,List.length_cons,bne_iff_ne,Bool.not_eq_true',List.contains_eq_mem,decide_eq_false_iff_not]
 constructor
 ·rintro ⟨⟨h1,_⟩,h3⟩
  refine ⟨h1,fun z => ?_⟩
  have:=h3 j z 0 (by omega)
  simp at this
 ·rintro ⟨h1,h2⟩
  refine ⟨⟨h1,fun i hi k hk => ?_⟩,fun k hk i hi => ?_⟩
  ·by_cases c:i = 0
   ·by_cases d:k = 0
    ·simp [c,d]
    ·right; simp [c,d]
   ·left; right; simp [c]
  ·by_cases c:i = 0
   ·simp [c]
    rintro rfl
    exact h2 hk
   ·simp [c]
@[simp] theorem backC_no {io:List Bool} {back:Rho} (h:noT io = true):backC io back = true:=by
 unfold backC
 rw [List.all_eq_true]
 intro i _
 have:=noT_at h i
 cases c:io[i]? with
 | none => simp
 | some b => cases b <;> simp_all
@[simp] theorem backC_one {io:List Bool} {back:Rho} (h:noT io = true):backC (true :: io) back = indepO (getS back 0):=by
 unfold backC
 rw [Bool.eq_iff_iff,List.all_eq_true]
 constructor
 ·intro z
  have:=z 0 (by simp)
  simpa using this
 ·intro z i hi
  cases i with
  | zero => simpa using z
  | succ i =>
   have:=noT_at h i
   (simp only [List.getElem?_cons_succ])
   cases c:io[i]? with
   | none => simp
   | some b => cases b <;> simp_all
theorem lentOf_no {os:List Opd} {io:List Bool} (h:noT io = true) (j:Nat):lentOf os io j = none:=by
 unfold lentOf
 rw [List.find?_eq_none]
 intro i _
 simp [lentAt_no h]
@[simp] theorem backL_no {os:List Opd} {io:List Bool} {back ρ:Rho} (h:noT io = true):backL true os io back ρ = ρ:=by
 unfold backL
 simp [lentOf_no h,List.mapIdx_eq_zipIdx_map]
theorem lentOf_one {j k:Nat} {os:List Opd} {io:List Bool} (h:noT io = true):lentOf (.nm j :: os) (true :: io) k = if k = j then some 0 else none:=by
 unfold lentOf
 simp only [List.length_cons,List.range_succ_eq_map,List.find?_cons,lentAt_zero]
 by_cases c:k = j
 ·subst c; simp
 ·have c':¬ j = k:=fun z => c z.symm
  simp only [c,c',if_false,Option.some_beq_some,beq_iff_eq]
  simp only [show (j == k) = false by simp [c']]
  rw [List.find?_eq_none]
  intro i hi
  rw [List.mem_map] at hi
  obtain ⟨a,_,rfl⟩:=hi
  show ¬ (lentAt (.nm j :: os) (true :: io) (a + 1) == some k) = true
  simp [lentAt_succ,lentAt_no h]
@[simp] theorem backL_one {j:Nat} {os:List Opd} {io:List Bool} {back ρ:Rho} (h:noT io = true):backL true (.nm j :: os) (true :: io) back ρ = ρ.set j (getS back 0):=by
 unfold backL
 apply List.ext_getElem?
 intro k
 rw [List.getElem?_mapIdx,lentOf_one h]
 by_cases c:k = j
 ·subst c
  by_cases l:k < ρ.length
  ·simp [List.getElem?_set_self l,l]
  ·have l':ρ.length≤k:=by omega
   simp [List.getElem?_eq_none l',List.getElem?_eq_none (show (ρ.set k (getS back 0)).length≤k by simpa using l')]
 ·simp [c,List.getElem?_set_ne (Ne.symm c)]
@[simp] theorem gUser_ev (fn:FnT) (io:List Bool) (os:List Opd) (ρ:Rho):gUser fn io os ρ = gOs os (fun ts ρ => match argT io ts with
 | none => .bad
 | some us => if lendC os io = true then match fn us with
   | .ret t back => .ok t (backL (indep t&&backC io back) os io back ρ)
   | .ex c f back => .ex c f (backL (indepX f&&backC io back) os io back ρ)
   | .bad => .bad
  else .bad) ρ:=rfl
@[simp] theorem gMut_ev (i:Nat) (os:List Opd) (m:MutF) (ρ:Rho):gMut i os m ρ = match getS ρ i with
 | some (.lst _) => gOs os (fun ts ρ => match getS ρ i with
  | some (.lst xs) => match m xs ts with
   | some (res,ys) => .ok res (ρ.set i (some (.lst ys)))
   | none => .bad
  | _ => .bad) ρ
 | _ => .bad:=rfl
@[simp] theorem mApp_ev (xs:List T) (t:T):mApp xs [t] = if xs.length < sizeLine then some (.d .none,xs++[t]) else none:=rfl
@[simp] theorem mExt_ev (xs:List T) (t:T):mExt xs [t] = match listOf t with
 | some ds => if xs.length + ds.length≤sizeLine then some (.d .none,xs++ds.map T.d) else none
 | none => none:=rfl
@[simp] theorem mIns_ev (xs:List T) (k:Int) (t:T):mIns xs [.d (.int k),t] = if (decide (xs.length < sizeLine)&&decide (0≤k)&&decide (k.natAbs < 2 ^ 62)) = true then some (.d .none,xs.take k.toNat++t :: xs.drop k.toNat) else none:=rfl
@[simp] theorem mPop_ev (xs:List T):mPop xs [] = match xs.getLast? with
  | some t => some (t,xs.dropLast)
  | none => none:=rfl
@[simp] theorem mRev_ev (xs:List T):mRev xs [] = some (.d .none,xs.reverse):=rfl
@[simp] theorem mClr_ev (xs:List T):mClr xs [] = some (.d .none,[]):=rfl
@[simp] theorem gMutL_ev (i:Nat) (as:List Acc) (os:List Opd) (m:MutF) (ρ:Rho):gMutL i as os m ρ = match getS ρ i with
 | none => .bad
 | some t => match pathOf ρ as t with
  | none => .bad
  | some p => match getP p t with
   | some (.lst xs) => gOs os (fun ts ρ' => match m xs ts with
    | some (res,ys) => if i < ρ'.length then .ok res (ρ'.set i (some (putP p t (.lst ys)))) else .bad
    | none => .bad) (ρ.set i none)
   | _ => .bad:=rfl
@[simp] theorem sPutA_ev (i:Nat) (ob:Opd) (g:G T) (ρ:Rho):sPutA i ob g ρ = (g ρ).s fun t ρ1 => match getS ρ1 i with
 | none => .bad
 | some _ => (gOs [ob] (fun ts ρ2 => match putA t (getS ρ2 i) ts with
  | some u => .ok () (ρ2.set i (some u))
  | none => .bad) ρ1).s fun _ ρ3 => .nx ρ3:=rfl
@[simp] theorem putA_lst (t:T) (xs:List T) (k:Int):putA t (some (.lst xs)) [.d (.int k)] = (ixN xs.length k).map fun j => .lst (xs.set j t):=rfl
@[simp] theorem putA_dK (t kt:T) (kvs:List (Key × T)):putA t (some (.dK kvs)) [kt] = (keyOf kt).bind fun k => if (decide (kvs.length < sizeLine)&&putC kvs k t) = true then some (.dK (putT kvs k t)) else none:=rfl
@[simp] theorem putA_dT (t kt:T) (kvs:List (List Key × T)):putA t (some (.dT kvs)) [kt] = (tkeyOf kt).bind fun k => if (decide (kvs.length < sizeLine)&&putC kvs k t) = true then some (.dT (putT kvs k t)) else none:=rfl
@[simp] theorem kI2_ev (C:Int→Int→Bool) (g:Int→Int→D) (a b:Int):kI2 C g (.d (.int a)) (.d (.int b)) = if C a b = true then some (.d (g a b)) else none:=rfl
@[simp] theorem kAdd_ii (a b:Int):kAdd (.d (.int a)) (.d (.int b)) = some (.d (.int (a + b))):=rfl
@[simp] theorem kSubI_ii (a b:Int):kSubI (.d (.int a)) (.d (.int b)) = some (.d (.int (a - b))):=rfl
@[simp] theorem kMul_ii (a b:Int):kMul (.d (.int a)) (.d (.int b)) = if (in64 a||in64 b) = true then some (.d (.int (a * b))) else none:=by
 show ((kMulI _ _).or _) = _
 unfold kMulI
 rw [kI2_ev]
 split <;> rfl
@[simp] theorem kDivI_ii (a b:Int):kDivI (.d (.int a)) (.d (.int b)) = if (decide (0 < b)&&decide (b.natAbs < 1073741824)) = true then some (.d (.int (a / b))) else none:=rfl
@[simp] theorem kModI_ii (a b:Int):kModI (.d (.int a)) (.d (.int b)) = if decide (0 < b) = true then some (.d (.int (a % b))) else none:=rfl
@[simp] theorem kPowI_ii (a b:Int):kPowI (.d (.int a)) (.d (.int b)) = if (decide (0≤b)&&decide (b≤1000000)&&decide (a.natAbs < 2 ^ 64)) = true then some (.d (.int (a ^ b.toNat))) else none:=rfl
@[simp] theorem kLtI_ii (a b:Int):kLtI (.d (.int a)) (.d (.int b)) = some (.d (.bool (decide (a < b)))):=rfl
@[simp] theorem kLeI_ii (a b:Int):kLeI (.d (.int a)) (.d (.int b)) = some (.d (.bool (decide (a≤b)))):=rfl
@[simp] theorem kGtI_ii (a b:Int):kGtI (.d (.int a)) (.d (.int b)) = some (.d (.bool (decide (b < a)))):=rfl
@[simp] theorem kGeI_ii (a b:Int):kGeI (.d (.int a)) (.d (.int b)) = some (.d (.bool (decide (b≤a)))):=rfl
@[simp] theorem kNeg_i (a:Int):kNeg (.d (.int a)) = some (.d (.int (-a))):=rfl
@[simp] theorem kAbs_i (a:Int):kAbs (.d (.int a)) = some (.d (.int (if a < 0 then -a else a))):=rfl
@[simp] theorem kMax2_ii (a b:Int):kMax2 (.d (.int a)) (.d (.int b)) = some (.d (.int (max a b))):=by
 show some (T.d (.int (if b > a then b else a))) = _
 congr 3
 split <;> omega
@[simp] theorem kMin2_ii (a b:Int):kMin2 (.d (.int a)) (.d (.int b)) = some (.d (.int (min a b))):=by
 show some (T.d (.int (if b < a then b else a))) = _
 congr 3
 split <;> omega
@[simp] theorem kInt1_b (b:Bool):kInt1 (.d (.bool b)) = some (.d (.int (if b then 1 else 0))):=rfl
@[simp] theorem kInt1_i (b:Int):kInt1 (.d (.int b)) = some (.d (.int b)):=rfl
@[simp] theorem kTru_b (b:Bool):kTru (.d (.bool b)) = some b:=rfl
@[simp] theorem kTru_i (b:Int):kTru (.d (.int b)) = some (b != 0):=rfl
@[simp] theorem kTru_n:kTru (.d .none) = some false:=rfl
@[simp] theorem kNot_b (b:Bool):kNot (.d (.bool b)) = some (.d (.bool (!b))):=rfl
@[simp] theorem listOf_d (ds:List D):listOf (.d (.list ds)) = some ds:=rfl
@[simp] theorem listOf_l (ts:List T):listOf (.lst ts) = asDs ts:=rfl
@[simp] theorem listOf_dt (ds:List D):listOf (.d (.tuple ds)) = none:=rfl
@[simp] theorem listOf_di (i:Int):listOf (.d (.int i)) = none:=rfl
@[simp] theorem listOf_t (ts:List T):listOf (.tup ts) = none:=rfl
@[simp] theorem tupOf_d (ds:List D):tupOf (.d (.tuple ds)) = some ds:=rfl
@[simp] theorem tupOf_dl (ds:List D):tupOf (.d (.list ds)) = none:=rfl
@[simp] theorem tupOf_l (ts:List T):tupOf (.lst ts) = none:=rfl
@[simp] theorem seqOf_d (ds:List D):seqOf (.d (.list ds)) = some ds:=rfl
@[simp] theorem seqOf_dt (ds:List D):seqOf (.d (.tuple ds)) = some ds:=rfl
@[simp] theorem seqOf_l (ts:List T):seqOf (.lst ts) = asDs ts:=by simp [seqOf]
@[simp] theorem kLenA_dl (ds:List D):kLenA (.d (.list ds)) = some (.d (.int ds.length)):=rfl
@[simp] theorem kLenA_dt (ds:List D):kLenA (.d (.tuple ds)) = some (.d (.int ds.length)):=rfl
@[simp] theorem kLenA_l (ts:List T):kLenA (.lst ts) = some (.d (.int ts.length)):=rfl
@[simp] theorem kLenA_t (ts:List T):kLenA (.tup ts) = some (.d (.int ts.length)):=rfl
@[simp] theorem kLenA_s (ns:List Int):kLenA (.scr ns) = some (.d (.int ns.length)):=rfl
@[simp] theorem kLenA_dK (kvs:List (Key × T)):kLenA (.dK kvs) = some (.d (.int kvs.length)):=rfl
@[simp] theorem kLenA_dT (kvs:List (List Key × T)):kLenA (.dT kvs) = some (.d (.int kvs.length)):=rfl
@[simp] theorem kIx_dl (ds:List D) (i:Int):kIx (.d (.list ds)) (.d (.int i)) = (atI ds i).map T.d:=rfl
@[simp] theorem kIx_dt (ds:List D) (i:Int):kIx (.d (.tuple ds)) (.d (.int i)) = (atI ds i).map T.d:=rfl
@[simp] theorem kIx_l (ts:List T) (i:Int):kIx (.lst ts) (.d (.int i)) = atI ts i:=rfl
@[simp] theorem kIx_t (ts:List T) (i:Int):kIx (.tup ts) (.d (.int i)) = atI ts i:=rfl
@[simp] theorem kIx_s (ns:List Int) (i:Int):kIx (.scr ns) (.d (.int i)) = (atI ns i).map fun n => .d (.int n):=rfl
@[simp] theorem kIx_dK (kvs:List (Key × T)) (t:T):kIx (.dK kvs) t = none:=by cases t <;> rfl
@[simp] theorem kIx_dT (kvs:List (List Key × T)) (t:T):kIx (.dT kvs) t = none:=by cases t <;> rfl
@[simp] theorem kIxK_dK (kvs:List (Key × T)) (t:T):kIxK (.dK kvs) t = (keyOf t).bind fun k => getK kvs k:=rfl
@[simp] theorem kIxK_dT (kvs:List (List Key × T)) (t:T):kIxK (.dT kvs) t = (tkeyOf t).bind fun k => getK kvs k:=rfl
@[simp] theorem kIxK_l (ts:List T) (t:T):kIxK (.lst ts) t = none:=rfl
@[simp] theorem kIxK_d (x:D) (t:T):kIxK (.d x) t = none:=rfl
@[simp] theorem kIxK_t (x:List T) (t:T):kIxK (.tup x) t = none:=rfl
@[simp] theorem kIxK_s (x:List Int) (t:T):kIxK (.scr x) t = none:=rfl
@[simp] theorem keyOf_i (i:Int):keyOf (.d (.int i)) = some (.inl i):=rfl
@[simp] theorem keyOf_s (i:Str):keyOf (.d (.str i)) = some (.inr i):=rfl
@[simp] theorem tkeyOf_t (ds:List D):tkeyOf (.d (.tuple ds)) = keysD ds:=rfl
@[simp] theorem keysD_nil:keysD [] = some []:=rfl
@[simp] theorem keysD_i (i:Int) (ds:List D):keysD (.int i :: ds) = match keysD ds with
 | some ks => some (.inl i :: ks)
 | none => none:=by
 show (match keyD (.int i),keysD ds with
  | some k,some ks => some (k :: ks)
  | _,_ => none) = _
 show (match some (Sum.inl i),keysD ds with
  | some k,some ks => some (k :: ks)
  | _,_ => none) = _
 cases keysD ds <;> rfl
@[simp] theorem ixN_zero (n:Nat) (h:0 < n):ixN n 0 = some 0:=by simp [ixN]; omega
@[simp] theorem ixN_one (n:Nat) (h:1 < n):ixN n 1 = some 1:=by
 unfold ixN
 rw [if_pos (by omega),if_pos (by omega)]
 rfl
@[simp] theorem ixN_nat (n k:Nat) (h:k < n):ixN n (k:Int) = some k:=by
 unfold ixN
 rw [if_pos (by omega),if_pos (by omega)]
 simp
@[simp] theorem atI_zero (x:α) (xs:List α):atI (x :: xs) 0 = some x:=by simp [atI]
@[simp] theorem atI_one (x y:α) (xs:List α):atI (x :: y :: xs) 1 = some y:=by
 unfold atI ixN
 simp only [List.length_cons]
 rw [if_pos (by omega),if_pos (by omega)]
 rfl
@[simp] theorem kListOf_dl (ds:List D):kListOf (.d (.list ds)) = some (.lst (ds.map T.d)):=rfl
@[simp] theorem kListOf_dt (ds:List D):kListOf (.d (.tuple ds)) = some (.lst (ds.map T.d)):=rfl
@[simp] theorem kListOf_l (ts:List T):kListOf (.lst ts) = (asDs ts).map fun ds => .lst (ds.map T.d):=by simp [kListOf]
@[simp] theorem kTupOf_dl (ds:List D):kTupOf (.d (.list ds)) = some (.d (.tuple ds)):=rfl
@[simp] theorem kTupOf_dt (ds:List D):kTupOf (.d (.tuple ds)) = some (.d (.tuple ds)):=rfl
@[simp] theorem kTupOf_l (ts:List T):kTupOf (.lst ts) = (asDs ts).map fun ds => .d (.tuple ds):=by simp [kTupOf]
@[simp] theorem kIsN_ev (neg:Bool) (t:T):kIsN neg t (.d .none) = some (.d (.bool (if neg then !isNone t else isNone t))):=rfl
@[simp] theorem isNone_n:isNone (.d .none) = true:=rfl
@[simp] theorem isNone_i (i:Int):isNone (.d (.int i)) = false:=rfl
@[simp] theorem isNone_b (i:Bool):isNone (.d (.bool i)) = false:=rfl
@[simp] theorem isNone_s (i:Str):isNone (.d (.str i)) = false:=rfl
@[simp] theorem isNone_l (i:List D):isNone (.d (.list i)) = false:=rfl
@[simp] theorem isNone_t (i:List D):isNone (.d (.tuple i)) = false:=rfl
@[simp] theorem isNone_lst (i:List T):isNone (.lst i) = false:=rfl
@[simp] theorem isNone_tup (i:List T):isNone (.tup i) = false:=rfl
@[simp] theorem backS_ev (st:List Nat) (n:Nat) (ρ:Rho):backS st n ρ = (ρ.take n).mapIdx fun i u => if i∈st then none else u:=rfl
theorem fnOf_ev (n N:Nat) (st:List Nat) (g:SG) (ts:List T):fnOf n N st g ts = match g (ts.map some++List.replicate (N - n) none) with
 | .nx ρ => .ret (.d .none) (backS st n ρ)
 | .rt t ρ => .ret t (backS st n ρ)
 | .ex c f ρ => .ex c f (backS st n ρ)
 | _ => .bad:=rfl
theorem in62_ev (i:Int):in62 i = decide (i.natAbs < 2 ^ 62):=rfl
theorem in62_of {i:Int} (h1:-1000000000≤i) (h2:i≤1000000000):in62 i = true:=by
 rw [in62_ev,decide_eq_true_eq]
 omega
@[simp] theorem in62_l0:in62 0 = true:=in62_of (by omega) (by omega)
@[simp] theorem in62_l1:in62 1 = true:=in62_of (by omega) (by omega)
@[simp] theorem in62_l2:in62 2 = true:=in62_of (by omega) (by omega)
@[simp] theorem in62_l3:in62 3 = true:=in62_of (by omega) (by omega)
@[simp] theorem in62_l4:in62 4 = true:=in62_of (by omega) (by omega)
@[simp] theorem in62_l5:in62 5 = true:=in62_of (by omega) (by omega)
@[simp] theorem in62_l8:in62 8 = true:=in62_of (by omega) (by omega)
@[simp] theorem in62_l10:in62 10 = true:=in62_of (by omega) (by omega)
@[simp] theorem in62_l12:in62 12 = true:=in62_of (by omega) (by omega)
@[simp] theorem in62_l100:in62 100 = true:=in62_of (by omega) (by omega)
@[simp] theorem kRng1_ok {j:Int} (h:in62 j = true) (ρ:Rho):kRng1 [.d (.int j)] ρ = .ok (rng 0 j.toNat) ρ:=by
 show (if in62 j = true then _ else _) = _
 rw [if_pos h]
@[simp] theorem kRng2_ok {i j:Int} (h:in62 i = true) (h':in62 j = true) (ρ:Rho):kRng2 [.d (.int i),.d (.int j)] ρ = .ok (rng i (j - i).toNat) ρ:=by
 show (if (in62 i&&in62 j) = true then _ else _) = _
 rw [h,h']
 rfl
@[simp] theorem rng_ls (i:Int) (n:Nat):(rng i n).ls = []:=rfl
@[simp] theorem rng_n (i:Int) (n:Nat):(rng i n).n = n:=rfl
@[simp] theorem rng_fin (i:Int) (n:Nat) (ρ:Rho):(rng i n).fin ρ = true:=rfl
@[simp] theorem rng_item (i:Int) (n k:Nat) (ρ:Rho):(rng i n).item k ρ = some (.d (.int (i + (k:Int)))):=rfl
@[simp] theorem disj_nil (vs:List Nat):disj [] vs = true:=rfl
@[simp] theorem disj_cons (x:Nat) (xs vs:List Nat):disj (x :: xs) vs = (!vs.contains x&&disj xs vs):=rfl
@[simp] theorem gSeq_ev (o:Opd) (ρ:Rho):gSeq o ρ = (o.src ρ).bind fun q ρ' => .ok q.it ρ':=rfl
@[simp] theorem gEnum_ev (o:Opd) (ρ:Rho):gEnum o ρ = (o.src ρ).bind fun q ρ' => .ok q.itE ρ':=rfl
@[simp] theorem src_nm (i:Nat) (ρ:Rho):(Opd.nm i).src ρ = match getS ρ i with
  | some t => match slotSrc i t with
   | some q => .ok q ρ
   | none => .bad
  | none => .bad:=rfl
@[simp] theorem src_val (g:G T) (ρ:Rho):(Opd.val g).src ρ = (g ρ).bind fun t ρ' => match srcOf t with
  | some q => .ok q ρ'
  | none => .bad:=rfl
@[simp] theorem src_pk (g:G T) (ρ:Rho):(Opd.pk g).src ρ = ((Opd.pk g).vg ρ).bind fun t ρ' => match srcOf t with
  | some q => .ok q ρ'
  | none => .bad:=rfl
@[simp] theorem slotSrc_dl (i:Nat) (ds:List D):slotSrc i (.d (.list ds)) = some ⟨some i,true,ds.map T.d⟩:=rfl
@[simp] theorem slotSrc_dt (i:Nat) (ds:List D):slotSrc i (.d (.tuple ds)) = some ⟨some i,false,ds.map T.d⟩:=rfl
@[simp] theorem slotSrc_l (i:Nat) (ts:List T):slotSrc i (.lst ts) = (asDs ts).map fun ds => ⟨some i,true,ds.map T.d⟩:=by
 unfold slotSrc
 simp
 cases asDs ts <;> rfl
@[simp] theorem srcOf_dl (ds:List D):srcOf (.d (.list ds)) = some ⟨none,true,ds.map T.d⟩:=rfl
@[simp] theorem srcOf_dt (ds:List D):srcOf (.d (.tuple ds)) = some ⟨none,false,ds.map T.d⟩:=rfl
@[simp] theorem srcOf_l (ts:List T):srcOf (.lst ts) = some ⟨none,true,ts⟩:=rfl
@[simp] theorem srcOf_t (ts:List T):srcOf (.tup ts) = some ⟨none,false,ts⟩:=rfl
end
end Hu
namespace Hu
open PySem L2
structure Rds (w:It0) (xs:List T) (P:Rho→Prop):Prop where
 n:w.n = xs.length
 item:∀ ρ,P ρ→∀ k (h:k < xs.length),w.item k ρ = some xs[k]
 fin:∀ ρ,P ρ→w.fin ρ = true
theorem Rds.imp {w:It0} {xs:List T} {P P':Rho→Prop} (R:Rds w xs P) (h:∀ ρ,P' ρ→P ρ):Rds w xs P':=⟨R.n,fun ρ p => R.item ρ (h ρ p),fun ρ p => R.fin ρ (h ρ p)⟩
theorem rgI_length (i:Int) (n:Nat):(rgI i n).length = n:=by simp [rgI]
theorem rds_rng (i:Int) (n:Nat) (P:Rho→Prop):Rds (rng i n) ((rgI i n).map iT) P :=
 ⟨by simp [rgI_length],fun ρ _ k h => by simp [rgI],fun _ _ => rfl⟩
theorem rds_st (b:Bool) (ts:List T) (P:Rho→Prop):Rds (Src.it ⟨none,b,ts⟩) ts P :=
 ⟨rfl,fun ρ _ k h => by simp [Src.it,Src.item,h],fun _ _ => rfl⟩
theorem look_same {i:Nat} {b:Bool} {t:T} {ds:List D} {ρ:Rho} (h:getS ρ i = some t) (h2:seqK b t = some ds):(Src.mk (some i) b (ds.map T.d)).look ρ i = some ds:=by
 simp [Src.look,h,h2]
theorem rds_sl (i:Nat) (b:Bool) (ds:List D):Rds (Src.it ⟨some i,b,ds.map T.d⟩) (ds.map T.d) (fun ρ => ∃ t,getS ρ i = some t∧seqK b t = some ds) :=
 ⟨by simp [Src.it],fun ρ ⟨t,h1,h2⟩ k h => by
  have:=look_same h1 h2
  simp at h
  simp [Src.it,Src.item,this,h],fun ρ ⟨t,h1,h2⟩ => by
  have:=look_same h1 h2
  simp [Src.it,Src.fin,this]⟩
@[simp] theorem seqK_ll (ts:List T):seqK true (.lst ts) = asDs ts:=rfl
@[simp] theorem seqK_ld (ds:List D):seqK true (.d (.list ds)) = some ds:=rfl
@[simp] theorem seqK_td (ds:List D):seqK false (.d (.tuple ds)) = some ds:=rfl
def numd (ts:List T):List T:=ts.mapIdx fun k t => mkTup [iT (k:Int),t]
theorem rds_stE (b:Bool) (ts:List T) (P:Rho→Prop):Rds (Src.itE ⟨none,b,ts⟩) (numd ts) P :=
 ⟨by simp [Src.itE,numd],fun ρ _ k h => by
  have h':k < ts.length:=by simpa [numd] using h
  simp [Src.itE,Src.item,h',numd],fun _ _ => rfl⟩
def turn (tg:T→Rho→Option Rho) (body:SG) (t:T) (ρ:Rho):SOut:=match tg t ρ with
 | some ρ1 => body ρ1
 | none => .bad
theorem turn_nx {tg:T→Rho→Option Rho} {body:SG} {t:T} {ρ ρ2:Rho} (h:turn tg body t ρ = .nx ρ2∨turn tg body t ρ = .ct ρ2):∃ ρ1,tg t ρ = some ρ1∧(body ρ1 = .nx ρ2∨body ρ1 = .ct ρ2):=by
 unfold turn at h
 cases c:tg t ρ with
 | none => rw [c] at h; simp at h
 | some ρ1 => rw [c] at h; exact ⟨ρ1,rfl,h⟩
section
variable {w:It0} {xs:List T} {RP:Rho→Prop} {tg:T→Rho→Option Rho} {body:SG}
theorem loop_gen (R:Rds w xs RP) (P:Nat→Rho→Prop) (Rt:T→Rho→Prop) (hP:∀ k ρ,P k ρ→RP ρ)
  (step:∀ k (hk:k < xs.length) ρ,P k ρ→∃ ρ1,tg xs[k] ρ = some ρ1∧((∃ ρ2,(body ρ1 = .nx ρ2∨body ρ1 = .ct ρ2)∧P (k + 1) ρ2)∨∃ t ρ2,body ρ1 = .rt t ρ2∧Rt t ρ2)) :
  ∀ n k ρ,k + n = xs.length→P k ρ→(∃ ρ',loopN w.item w.fin tg body n k ρ = .nx ρ'∧P xs.length ρ')∨∃ t ρ',loopN w.item w.fin tg body n k ρ = .rt t ρ'∧Rt t ρ'
 | 0,k,ρ,h,p => by
  have e:k = xs.length:=by omega
  subst e
  exact .inl ⟨ρ,by simp [loopN,R.fin ρ (hP _ _ p)],p⟩
 | n + 1,k,ρ,h,p => by
  have hk:k < xs.length:=by omega
  obtain ⟨ρ1,h1,h2⟩:=step k hk ρ p
  have hi:=R.item ρ (hP _ _ p) k hk
  rcases h2 with ⟨ρ2,h3,p2⟩ | ⟨t,ρ2,h3,r⟩
  ·have:=loop_gen R P Rt hP step n (k + 1) ρ2 (by omega) p2
   rcases h3 with h3 | h3 <;> simpa [loopN,hi,h1,h3] using this
  ·exact .inr ⟨t,ρ2,by simp [loopN,hi,h1,h3],r⟩
theorem for_gen {st:List Nat} {it:G It0} {ρ0 ρ:Rho} (hi:it ρ0 = .ok w ρ) (R:Rds w xs RP) (hd:disj w.ls st = true) (P:Nat→Rho→Prop) (Rt:T→Rho→Prop) (hP:∀ k ρ,P k ρ→RP ρ) (h0:P 0 ρ)
  (step:∀ k (hk:k < xs.length) ρ,P k ρ→∃ ρ1,tg xs[k] ρ = some ρ1∧((∃ ρ2,(body ρ1 = .nx ρ2∨body ρ1 = .ct ρ2)∧P (k + 1) ρ2)∨∃ t ρ2,body ρ1 = .rt t ρ2∧Rt t ρ2)) :
  (∃ ρ',sFor st it tg body ρ0 = .nx ρ'∧P xs.length ρ')∨∃ t ρ',sFor st it tg body ρ0 = .rt t ρ'∧Rt t ρ':=by
 have:=loop_gen R P Rt hP step w.n 0 ρ (by simpa using R.n) h0
 simpa [sFor,hi,hd] using this
theorem for_inv {st:List Nat} {it:G It0} {ρ0 ρ:Rho} (hi:it ρ0 = .ok w ρ) (R:Rds w xs RP) (hd:disj w.ls st = true) (P:Nat→Rho→Prop) (hP:∀ k ρ,P k ρ→RP ρ) (h0:P 0 ρ)
  (step:∀ k (hk:k < xs.length) ρ,P k ρ→∃ ρ1 ρ2,tg xs[k] ρ = some ρ1∧(body ρ1 = .nx ρ2∨body ρ1 = .ct ρ2)∧P (k + 1) ρ2) :
  ∃ ρ',sFor st it tg body ρ0 = .nx ρ'∧P xs.length ρ':=by
 rcases for_gen hi R hd P (fun _ _ => False) hP h0 fun k hk ρ p => (let ⟨ρ1,ρ2,h1,h2,h3⟩:=step k hk ρ p; ⟨ρ1,h1,.inl ⟨ρ2,h2,h3⟩⟩) with h | ⟨_,_,_,h⟩
 ·exact h
 ·exact h.elim
theorem for_map {α:Type} {l:List α} {enc:α→T} {st:List Nat} {it:G It0} {ρ0 ρ:Rho} (hi:it ρ0 = .ok w ρ) (R:Rds w (l.map enc) RP) (hd:disj w.ls st = true) (P:List α→Rho→Prop) (hP:∀ k ρ,P k ρ→RP ρ) (h0:P [] ρ)
  (step:∀ pre a post ρ,l = pre++a :: post→P pre ρ→∃ ρ1 ρ2,tg (enc a) ρ = some ρ1∧(body ρ1 = .nx ρ2∨body ρ1 = .ct ρ2)∧P (pre++[a]) ρ2) :
  ∃ ρ',sFor st it tg body ρ0 = .nx ρ'∧P l ρ':=by
 obtain ⟨ρ',h1,h2⟩:=for_inv hi R hd (fun k ρ => P (l.take k) ρ) (fun k ρ p => hP _ ρ p) (by simpa using h0) fun k hk ρ p => by
  have hk':k < l.length:=by simpa using hk
  obtain ⟨ρ1,ρ2,e1,e2,e3⟩:=step (l.take k) l[k] (l.drop (k + 1)) ρ (by simp) p
  refine ⟨ρ1,ρ2,by simpa using e1,e2,?_⟩
  rw [List.take_succ_eq_append_getElem hk']
  exact e3
 exact ⟨ρ',h1,by simpa using h2⟩
theorem for_run {g:SG} {st:List Nat} {it:G It0} (hg:g = sFor st it tg body) {ρ0 ρ:Rho} (hi:it ρ0 = .ok w ρ) (R:Rds w xs RP) (hd:disj w.ls st = true) (P:Nat→Rho→Prop) (hP:∀ k ρ,P k ρ→RP ρ) (h0:P 0 ρ)
  (step:∀ k (hk:k < xs.length) ρ,P k ρ→∃ ρ2,(turn tg body xs[k] ρ = .nx ρ2∨turn tg body xs[k] ρ = .ct ρ2)∧P (k + 1) ρ2):∃ ρ',g ρ0 = .nx ρ'∧P xs.length ρ':=by
 subst hg
 exact for_inv hi R hd P hP h0 fun k hk ρ p => (let ⟨ρ2,h,q⟩:=step k hk ρ p; let ⟨ρ1,e1,e2⟩:=turn_nx h; ⟨ρ1,ρ2,e1,e2,q⟩)
theorem for_runL {α:Type} {l:List α} {enc:α→T} {g:SG} {st:List Nat} {it:G It0} (hg:g = sFor st it tg body) {ρ0 ρ:Rho} (hi:it ρ0 = .ok w ρ) (R:Rds w (l.map enc) RP) (hd:disj w.ls st = true) (P:List α→Rho→Prop) (hP:∀ k ρ,P k ρ→RP ρ) (h0:P [] ρ)
  (step:∀ pre a post ρ,l = pre++a :: post→P pre ρ→∃ ρ2,(turn tg body (enc a) ρ = .nx ρ2∨turn tg body (enc a) ρ = .ct ρ2)∧P (pre++[a]) ρ2):∃ ρ',g ρ0 = .nx ρ'∧P l ρ':=by
 subst hg
 exact for_map hi R hd P hP h0 fun pre a post ρ e p => (let ⟨ρ2,h,q⟩:=step pre a post ρ e p; let ⟨ρ1,e1,e2⟩:=turn_nx h; ⟨ρ1,ρ2,e1,e2,q⟩)
end
section
variable {w:It0} {xs:List T} {RP:Rho→Prop} {f:T→Rho→Option Rho} {vs:List Nat} {test:G Bool} {elt:G T}
theorem lc_gen (R:Rds w xs RP) (hn:xs.length < 16000000) (P:Nat→List T→Rho→Prop) (hP:∀ k acc ρ,P k acc ρ→RP ρ) (hl:∀ k acc ρ,P k acc ρ→acc.length≤k)
  (step:∀ k (hk:k < xs.length) acc ρ,P k acc ρ→∃ ρ1 b ρ2,f xs[k] ρ = some ρ1∧test ρ1 = .ok b ρ2∧(b = true→∃ y ρ3,elt ρ2 = .ok y ρ3∧P (k + 1) (acc++[y]) (wipeR ρ3 vs))∧(b = false→P (k + 1) acc (wipeR ρ2 vs))) :
  ∀ n k acc ρ,k + n = xs.length→P k acc ρ→∃ ts ρ',lcN w.item w.fin f vs test elt n k acc ρ = some (ts,ρ')∧P xs.length ts ρ'
 | 0,k,acc,ρ,h,p => by
  have e:k = xs.length:=by omega
  subst e
  exact ⟨acc,ρ,by simp [lcN,R.fin ρ (hP _ _ _ p)],p⟩
 | n + 1,k,acc,ρ,h,p => by
  have hk:k < xs.length:=by omega
  obtain ⟨ρ1,b,ρ2,h1,h2,h3,h4⟩:=step k hk acc ρ p
  have hi:=R.item ρ (hP _ _ _ p) k hk
  have hz:acc.length < sizeLine:=by
   have:=hl k acc ρ p
   rw [sizeLine_eq]; omega
  cases b with
  | true =>
   obtain ⟨y,ρ3,e1,p2⟩:=h3 rfl
   obtain ⟨ts,ρ',e,p'⟩:=lc_gen R hn P hP hl step n (k + 1) _ _ (by omega) p2
   exact ⟨ts,ρ',by simp [lcN,hi,h1,h2,e1,hz,e],p'⟩
  | false =>
   obtain ⟨ts,ρ',e,p'⟩:=lc_gen R hn P hP hl step n (k + 1) _ _ (by omega) (h4 rfl)
   exact ⟨ts,ρ',by simp [lcN,hi,h1,h2,e],p'⟩
theorem gLc_map {α:Type} {l:List α} {enc:α→T} (p:α→Bool) (out:α→T) {it:G It0} {ρ0 ρ:Rho} (hi:it ρ0 = .ok w ρ) (R:Rds w (l.map enc) RP) (hd:disj w.ls vs = true) (hn:l.length < 16000000) (hP:RP (wipeR ρ vs))
  (step:∀ a,a∈l→∃ ρ1,f (enc a) (wipeR ρ vs) = some ρ1∧wipeR ρ1 vs = wipeR ρ vs∧test ρ1 = .ok (p a) ρ1∧(p a = true→elt ρ1 = .ok (out a) ρ1)) :
  gLc vs it f test elt ρ0 = .ok (.lst ((l.filter p).map out)) (backR ρ (wipeR ρ vs) vs):=by
 obtain ⟨ts,ρ',e,h⟩:=lc_gen (f:=f) (vs:=vs) (test:=test) (elt:=elt) R (by simpa using hn) (fun k acc r => r = wipeR ρ vs∧acc = ((l.take k).filter p).map out∧k≤l.length)
  (fun k acc r h => h.1 ▸ hP) (fun k acc r h => by
   rw [h.2.1,List.length_map]
   exact Nat.le_trans (List.length_filter_le _ _) (by simp; omega))
  (fun k hk acc r h => by
   obtain ⟨rfl,rfl,_⟩:=h
   have hk':k < l.length:=by simpa using hk
   obtain ⟨ρ1,e1,e2,e3,e4⟩:=step l[k] (List.getElem_mem hk')
   refine ⟨ρ1,p l[k],ρ1,by simpa using e1,e3,fun hb => ⟨out l[k],ρ1,e4 hb,e2,?_,hk'⟩,fun hb => ⟨e2,?_,hk'⟩⟩
   ·rw [List.take_succ_eq_append_getElem hk',List.filter_append,List.map_append]
    simp [hb]
   ·rw [List.take_succ_eq_append_getElem hk',List.filter_append,List.map_append]
    simp [hb])
  w.n 0 [] (wipeR ρ vs) (by simpa using R.n) ⟨rfl,by simp,Nat.zero_le _⟩
 obtain ⟨rfl,rfl,_⟩:=h
 simp [gLc,hi,hd,e]
theorem gLc_inv {it:G It0} {ρ0 ρ:Rho} (hi:it ρ0 = .ok w ρ) (R:Rds w xs RP) (hd:disj w.ls vs = true) (hn:xs.length < 16000000) (P:Nat→List T→Rho→Prop) (hP:∀ k acc ρ,P k acc ρ→RP ρ) (hl:∀ k acc ρ,P k acc ρ→acc.length≤k) (h0:P 0 [] (wipeR ρ vs))
  (step:∀ k (hk:k < xs.length) acc ρ,P k acc ρ→∃ ρ1 b ρ2,f xs[k] ρ = some ρ1∧test ρ1 = .ok b ρ2∧(b = true→∃ y ρ3,elt ρ2 = .ok y ρ3∧P (k + 1) (acc++[y]) (wipeR ρ3 vs))∧(b = false→P (k + 1) acc (wipeR ρ2 vs))) :
  ∃ ts ρ',gLc vs it f test elt ρ0 = .ok (.lst ts) (backR ρ ρ' vs)∧P xs.length ts ρ':=by
 obtain ⟨ts,ρ',e,h⟩:=lc_gen R hn P hP hl step w.n 0 [] (wipeR ρ vs) (by simpa using R.n) h0
 exact ⟨ts,ρ',by simp [gLc,hi,hd,e],h⟩
end
theorem lc_run {α:Type} {l:List α} {enc:α→T} (p:α→Bool) (out:α→T) {w:It0} {RP:Rho→Prop} {f:T→Rho→Option Rho} {vs:List Nat} {test:G Bool} {elt:G T} {c:G T} {it:G It0} (hc:c = gLc vs it f test elt) {ρ0 ρ:Rho} (hi:it ρ0 = .ok w ρ) (R:Rds w (l.map enc) RP) (hd:disj w.ls vs = true) (hn:l.length < 16000000) (hP:RP (wipeR ρ vs))
  (step:∀ a,a∈l→∃ ρ1,f (enc a) (wipeR ρ vs) = some ρ1∧wipeR ρ1 vs = wipeR ρ vs∧test ρ1 = .ok (p a) ρ1∧(p a = true→elt ρ1 = .ok (out a) ρ1)) :
  c ρ0 = .ok (.lst ((l.filter p).map out)) (backR ρ (wipeR ρ vs) vs):=by
 subst hc
 exact gLc_map p out hi R hd hn hP step
@[simp] theorem filter_yes {α:Type} (l:List α):l.filter (fun _ => true) = l:=by
 rw [List.filter_eq_self]
 intro _ _
 rfl
theorem lc_all {α:Type} {l:List α} {enc:α→T} (out:α→T) {w:It0} {RP:Rho→Prop} {f:T→Rho→Option Rho} {vs:List Nat} {elt:G T} {c:G T} {it:G It0} (hc:c = gLc vs it f gYes elt) {ρ0 ρ:Rho} (hi:it ρ0 = .ok w ρ) (R:Rds w (l.map enc) RP) (hd:disj w.ls vs = true) (hn:l.length < 16000000) (hP:RP (wipeR ρ vs))
  (step:∀ a,a∈l→∃ ρ1,f (enc a) (wipeR ρ vs) = some ρ1∧wipeR ρ1 vs = wipeR ρ vs∧elt ρ1 = .ok (out a) ρ1) :
  c ρ0 = .ok (.lst (l.map out)) (backR ρ (wipeR ρ vs) vs):=by
 have:=lc_run (fun _ => true) out hc hi R hd hn hP fun a ha => (let ⟨ρ1,h1,h2,h3⟩:=step a ha; ⟨ρ1,h1,h2,rfl,fun _ => h3⟩)
 rw [filter_yes] at this
 exact this
theorem lc_gen_run {xs:List T} {w:It0} {RP:Rho→Prop} {f:T→Rho→Option Rho} {vs:List Nat} {test:G Bool} {elt:G T} {c:G T} {it:G It0} (hc:c = gLc vs it f test elt) {ρ0 ρ:Rho} (hi:it ρ0 = .ok w ρ) (R:Rds w xs RP) (hd:disj w.ls vs = true) (hn:xs.length < 16000000) (P:Nat→List T→Rho→Prop) (hP:∀ k acc ρ,P k acc ρ→RP ρ) (hl:∀ k acc ρ,P k acc ρ→acc.length≤k) (h0:P 0 [] (wipeR ρ vs))
  (step:∀ k (hk:k < xs.length) acc ρ,P k acc ρ→∃ ρ1 b ρ2,f xs[k] ρ = some ρ1∧test ρ1 = .ok b ρ2∧(b = true→∃ y ρ3,elt ρ2 = .ok y ρ3∧P (k + 1) (acc++[y]) (wipeR ρ3 vs))∧(b = false→P (k + 1) acc (wipeR ρ2 vs))) :
  ∃ ts ρ',c ρ0 = .ok (.lst ts) (backR ρ ρ' vs)∧P xs.length ts ρ':=by
 subst hc
 exact gLc_inv hi R hd hn P hP hl h0 step
@[simp] theorem wipeR_nil (ρ:Rho):wipeR ρ [] = ρ:=rfl
@[simp] theorem wipeR_cons (ρ:Rho) (v:Nat) (vs:List Nat):wipeR ρ (v :: vs) = (wipeR ρ vs).set v none:=rfl
def keepD:Option T→Option T
 | some (.d x) => some (.d x)
 | _ => none
@[simp] theorem keepD_d (x:D):keepD (some (.d x)) = some (.d x):=rfl
@[simp] theorem keepD_n:keepD none = none:=rfl
@[simp] theorem backR_ev (ρ0 ρ:Rho) (vs:List Nat):backR ρ0 ρ vs = ρ.mapIdx fun j u => if j∈vs then keepD (getS ρ0 j) else u:=by
 unfold backR keepD
 congr 1
theorem while_inv {c:G Bool} {body:SG} (P:Nat→Rho→Prop) (Z:Rho→Prop) (Rt:T→Rho→Prop)
  (step:∀ n ρ,P n ρ→∃ b ρ1,c ρ = .ok b ρ1∧(b = false→Z ρ1)∧(b = true→(∃ ρ2 m,(body ρ1 = .nx ρ2∨body ρ1 = .ct ρ2)∧m < n∧P m ρ2)∨∃ t ρ2,body ρ1 = .rt t ρ2∧Rt t ρ2)) :
  ∀ n ρ,P n ρ→(∃ ρ',sWhile c body ρ = .nx ρ'∧Z ρ')∨∃ t ρ',sWhile c body ρ = .rt t ρ'∧Rt t ρ':=by
 have key:∀ n ρ,P n ρ→∃ k,(∃ ρ',whileN c body k ρ = .nx ρ'∧Z ρ')∨∃ t ρ',whileN c body k ρ = .rt t ρ'∧Rt t ρ':=by
  intro n
  refine Nat.strongRecOn n fun n ih => ?_
  intro ρ p
  obtain ⟨b,ρ1,h1,h2,h3⟩:=step n ρ p
  cases b with
  | false => exact ⟨1,.inl ⟨ρ1,by simp [whileN,h1],h2 rfl⟩⟩
  | true =>
   rcases h3 rfl with ⟨ρ2,m,e,lt,pm⟩ | ⟨t,ρ2,e,r⟩
   ·obtain ⟨k,hk⟩:=ih m lt ρ2 pm
    refine ⟨k + 1,?_⟩
    rcases e with e | e <;> simpa [whileN,h1,e] using hk
   ·exact ⟨1,.inr ⟨t,ρ2,by simp [whileN,h1,e],r⟩⟩
 intro n ρ p
 obtain ⟨k,h⟩:=key n ρ p
 have nb:isBad (whileN c body k ρ) = false:=by
  rcases h with ⟨ρ',e,_⟩ | ⟨t,ρ',e,_⟩ <;> rw [e] <;> rfl
 rw [sWhile_eq nb]
 exact h
end Hu
namespace Hu
open PySem L2
def Ok (n:Nat) (x:D):Prop:=x.canLay0 = true∧x.depth≤n
def OkA (n:Nat) (xs:List D):Prop:=∀ x,x∈xs→Ok n x
theorem Ok.mono {n m:Nat} {x:D} (h:Ok n x) (l:n≤m):Ok m x:=⟨h.1,Nat.le_trans h.2 l⟩
theorem OkA.mono {n m:Nat} {xs:List D} (h:OkA n xs) (l:n≤m):OkA m xs:=fun x hx => (h x hx).mono l
theorem Ok.int (n:Nat) (i:Int):Ok n (.int i):=⟨by simp [PyData.canLay0],by simp [PyData.depth]⟩
theorem Ok.bool (n:Nat) (i:Bool):Ok n (.bool i):=⟨by simp [PyData.canLay0],by simp [PyData.depth]⟩
theorem Ok.none (n:Nat):Ok n .none:=⟨by simp [PyData.canLay0],by simp [PyData.depth]⟩
theorem canAll:∀ {xs:List D} {n:Nat},OkA n xs→PyData.canLayAll0 xs = true∧PyData.depthAll xs≤n
 | [],n,_ => ⟨by simp [PyData.canLayAll0],by simp [PyData.depthAll]⟩
 | x :: xs,n,h => by
  obtain ⟨h1,h2⟩:=canAll (xs:=xs) (n:=n) fun y hy => h y (List.mem_cons_of_mem _ hy)
  obtain ⟨h3,h4⟩:=h x List.mem_cons_self
  exact ⟨by simp [PyData.canLayAll0,h1,h3],by simp only [PyData.depthAll]; omega⟩
theorem Ok.list {n:Nat} {xs:List D} (h:OkA n xs):Ok (n + 1) (.list xs):=by
 obtain ⟨h1,h2⟩:=canAll h
 exact ⟨by simp [PyData.canLay0,h1],by simp only [PyData.depth]; omega⟩
theorem Ok.tuple {n:Nat} {xs:List D} (h:OkA n xs):Ok (n + 1) (.tuple xs):=by
 obtain ⟨h1,h2⟩:=canAll h
 exact ⟨by simp [PyData.canLay0,h1],by simp only [PyData.depth]; omega⟩
theorem OkA.nil (n:Nat):OkA n []:=fun x h => by simp at h
theorem OkA.cons {n:Nat} {x:D} {xs:List D} (h:Ok n x) (h':OkA n xs):OkA n (x :: xs):=fun y hy => by
 (rcases List.mem_cons.mp hy with rfl | hy)
 ·exact h
 ·exact h' y hy
theorem OkA.map {α:Type} {n:Nat} {f:α→D} {l:List α} (h:∀ a,a∈l→Ok n (f a)):OkA n (l.map f):=fun y hy => by
 obtain ⟨a,ha,rfl⟩:=List.mem_map.mp hy
 exact h a ha
theorem Ok.ints (n:Nat) (l:List Int):Ok (n + 1) (.list (l.map PyData.int)):=.list (.map fun a _ => .int n a)
theorem Ok.okD {n:Nat} {x:D} (h:Ok n x) (l:n≤64:=by omega):okD x = true:=by
 simp [Hu.okD,SeqAt.shaped,h.1]
 exact Nat.le_trans h.2 l
def nbD:D→Bool
 | .none => true
 | .bool _ => false
 | .int _ => true
 | .str _ => true
 | .list xs => nbA xs
 | .tuple xs => nbA xs
 | .dict _ => false
where nbA:List D→Bool
 | [] => true
 | x :: xs => nbD x&&nbA xs
@[simp] theorem nbA_nil:nbD.nbA [] = true:=by simp [nbD.nbA]
@[simp] theorem nbA_cons (x:D) (xs:List D):nbD.nbA (x :: xs) = (nbD x&&nbD.nbA xs):=by simp [nbD.nbA]
@[simp] theorem nbD_int (i:Int):nbD (.int i) = true:=by simp [nbD]
@[simp] theorem nbD_none:nbD .none = true:=by simp [nbD]
@[simp] theorem nbD_str (x:Str):nbD (.str x) = true:=by simp [nbD]
@[simp] theorem nbD_list (xs:List D):nbD (.list xs) = nbD.nbA xs:=by simp [nbD]
@[simp] theorem nbD_tuple (xs:List D):nbD (.tuple xs) = nbD.nbA xs:=by simp [nbD]
theorem nbA_iff (xs:List D):nbD.nbA xs = true↔∀ x,x∈xs→nbD x = true:=by
 induction xs with
 | nil => simp
 | cons x r ih => simp [ih]
theorem nbA_map {α:Type} {f:α→D} (h:∀ a,nbD (f a) = true) (l:List α):nbD.nbA (l.map f) = true:=by
 rw [nbA_iff]
 intro x hx
 obtain ⟨a,_,rfl⟩:=List.mem_map.mp hx
 exact h a
@[simp] theorem nbA_ints (l:List Int):nbD.nbA (l.map PyData.int) = true:=nbA_map (fun _ => by simp) l
mutual
theorem eqv_iff:∀ {x y:D},nbD x = true→nbD y = true→(PyData.eqv x y = true↔x = y)
 | .none,y,hx,hy => by cases y <;> simp [PyData.eqv,nbD] at *
 | .bool _,y,hx,hy => by simp [nbD] at hx
 | .int i,y,hx,hy => by cases y <;> simp [PyData.eqv,nbD] at *
 | .str i,y,hx,hy => by cases y <;> simp [PyData.eqv,nbD] at *
 | .list xs,y,hx,hy => by
  cases y with
  | list ys =>
   simp only [PyData.eqv,PyData.list.injEq]
   exact eqvAll_iff (by simpa using hx) (by simpa using hy)
  | _ => simp [PyData.eqv]
 | .tuple xs,y,hx,hy => by
  cases y with
  | tuple ys =>
   simp only [PyData.eqv,PyData.tuple.injEq]
   exact eqvAll_iff (by simpa using hx) (by simpa using hy)
  | _ => simp [PyData.eqv]
 | .dict _,y,hx,hy => by simp [nbD] at hx
theorem eqvAll_iff:∀ {xs ys:List D},nbD.nbA xs = true→nbD.nbA ys = true→(PyData.eqvAll xs ys = true↔xs = ys)
 | [],[],_,_ => by simp [PyData.eqvAll]
 | [],_ :: _,_,_ => by simp [PyData.eqvAll]
 | _ :: _,[],_,_ => by simp [PyData.eqvAll]
 | x :: xs,y :: ys,hx,hy => by
  simp only [nbA_cons,Bool.and_eq_true] at hx hy
  simp only [PyData.eqvAll,Bool.and_eq_true,List.cons.injEq]
  rw [eqv_iff hx.1 hy.1,eqvAll_iff hx.2 hy.2]
end
theorem eqv_refl {n:Nat} {x:D} (h:Ok n x):PyData.eqv x x = true:=SeqAt.eqv_refl_plain x (PyData.plain_of_canLay0 x h.1)
theorem kEqv_at {neg:Bool} {a b:T} {x y:D} {n:Nat} (h1:datOf a = some x) (h2:datOf b = some y) (o1:Ok n x) (o2:Ok n y) (l:n≤64:=by omega):kEqv neg a b = some (.d (.bool (if neg then !PyData.eqv x y else PyData.eqv x y))):=by
 unfold kEqv
 rw [h1,h2]
 simp only
 rw [o1.okD,o2.okD]
 rfl
@[simp] theorem datOf_dd (x:D):datOf (.d x) = some x:=by simp [datOf]
@[simp] theorem datOf_ll (ts:List T):datOf (.lst ts) = (datsOf ts).map .list:=by simp [datOf]
@[simp] theorem datOf_tt (ts:List T):datOf (.tup ts) = (datsOf ts).map .tuple:=by simp [datOf]
@[simp] theorem datsOf_n:datsOf [] = some []:=by simp [datsOf]
@[simp] theorem datsOf_c (t:T) (ts:List T):datsOf (t :: ts) = match datOf t,datsOf ts with
  | some x,some xs => some (x :: xs)
  | _,_ => none:=by
 rw [datsOf]
 all_goals (cases datOf t <;> cases datsOf ts <;> rfl)
@[simp] theorem datsOf_mapd {α:Type} (f:α→D) (l:List α):datsOf (l.map fun x => T.d (f x)) = some (l.map f):=by
 have:=datsOf_map (l.map f)
 rw [List.map_map] at this
 exact this
@[simp] theorem kEqv_ii (neg:Bool) (a b:Int):kEqv neg (.d (.int a)) (.d (.int b)) = some (.d (.bool (if neg then !decide (a = b) else decide (a = b)))):=by
 rw [kEqv_at (n:=0) rfl rfl (.int 0 a) (.int 0 b)]
 simp only [PyData.eqv]
 congr
@[simp] theorem kEqv_bb (neg:Bool) (a b:Bool):kEqv neg (.d (.bool a)) (.d (.bool b)) = some (.d (.bool (if neg then !(a == b) else a == b))):=by
 rw [kEqv_at (n:=0) rfl rfl (.bool 0 a) (.bool 0 b)]
 simp only [PyData.eqv]
@[simp] theorem kAdd_ll (ts us:List T):kAdd (.lst ts) (.lst us) = match asDs ts,asDs us with
 | some xs,some ys => if xs.length + ys.length≤sizeLine then some (.lst ((xs++ys).map T.d)) else none
 | _,_ => none:=by
 show (none:Option T).or ((none:Option T).or ((kAddL (.lst ts) (.lst us)).or (kAddT (.lst ts) (.lst us)))) = _
 have e:kAddT (.lst ts) (.lst us) = none:=by simp [kAddT]
 rw [e]
 simp only [Option.none_or,Option.or_none,kAddL,listOf_l]
 all_goals (cases asDs ts <;> cases asDs us <;> rfl)
@[simp] theorem kMul_li (ts:List T) (k:Int):kMul (.lst ts) (.d (.int k)) = match asDs ts with
 | some xs => if (decide (k.natAbs < 2 ^ 63)&&decide (xs.length * k.toNat≤sizeLine)) = true then some (.lst ((List.replicate k.toNat xs).flatten.map T.d)) else none
 | none => none:=by
 show (none:Option T).or (kMulL (.lst ts) (.d (.int k))) = _
 simp [kMulL]
 cases asDs ts <;> rfl
section
variable {α:Type}
@[simp] theorem asDs_comp (f:α→D) (l:List α):asDs (l.map (T.d ∘ f)) = some (l.map f):=asDs_mapd f l
@[simp] theorem datsOf_comp (f:α→D) (l:List α):datsOf (l.map (T.d ∘ f)) = some (l.map f):=datsOf_mapd f l
@[simp] theorem frzsOf_comp (f:α→D) (l:List α):frzsOf (l.map (T.d ∘ f)) = some (l.map f):=frzsOf_map f l
@[simp] theorem asDs_dd (l:List D):asDs (l.map T.d) = some l:=asDs_map l
@[simp] theorem datsOf_dd' (l:List D):datsOf (l.map T.d) = some l:=datsOf_map l
@[simp] theorem frzsOf_dd (l:List D):frzsOf (l.map T.d) = some l:=by
 have:=frzsOf_map (id:D→D) l
 simpa using this
@[simp] theorem asDs_compf {β:Type} (f:β→D) (g:α→β) (l:List α):asDs (l.map ((fun x => T.d (f x)) ∘ g)) = some (l.map (f ∘ g)):=asDs_mapd (f ∘ g) l
@[simp] theorem datsOf_compf {β:Type} (f:β→D) (g:α→β) (l:List α):datsOf (l.map ((fun x => T.d (f x)) ∘ g)) = some (l.map (f ∘ g)):=datsOf_mapd (f ∘ g) l
@[simp] theorem frzsOf_compf {β:Type} (f:β→D) (g:α→β) (l:List α):frzsOf (l.map ((fun x => T.d (f x)) ∘ g)) = some (l.map (f ∘ g)):=frzsOf_map (f ∘ g) l
@[simp] theorem asDs_rep (n:Nat) (x:D):asDs (List.replicate n (T.d x)) = some (List.replicate n x):=by
 have:=asDs_map (List.replicate n x)
 rwa [List.map_replicate] at this
@[simp] theorem frzsOf_rep (n:Nat) (x:D):frzsOf (List.replicate n (T.d x)) = some (List.replicate n x):=by
 have:=frzsOf_dd (List.replicate n x)
 rwa [List.map_replicate] at this
@[simp] theorem asDs_app (ts us:List T):asDs (ts++us) = match asDs ts,asDs us with
 | some xs,some ys => some (xs++ys)
 | _,_ => none:=by
 induction ts with
 | nil => cases h:asDs us <;> simp [h]
 | cons t r ih =>
  cases t with
  | d x =>
   simp only [List.cons_append,asDs_cons,ih]
   cases asDs r <;> cases asDs us <;> simp
  | _ =>
   simp only [List.cons_append,asDs]
end
end Hu
namespace Hu
open PySem L2
theorem nodup_le {α:Type} [DecidableEq α]:∀ {l m:List α},l.Nodup→(∀ x,x∈l→x∈m)→l.length≤m.length
 | [],m,_,_ => by simp
 | x :: r,m,h,s => by
  rw [List.nodup_cons] at h
  have hx:=s x List.mem_cons_self
  have:=nodup_le (l:=r) (m:=m.erase x) h.2 fun y hy => by
   have ne:y≠x:=fun e => by
    subst e
    exact h.1 hy
   rw [List.mem_erase_of_ne ne]
   exact s y (List.mem_cons_of_mem _ hy)
  rw [List.length_erase_of_mem hx] at this
  have:0 < m.length:=List.length_pos_of_mem hx
  simp only [List.length_cons]
  omega
theorem turn_set {i:Nat} {body:SG} {t:T} {ρ:Rho} (h:i < ρ.length):turn (setS i) body t ρ = body (ρ.set i (some t)):=by
 unfold turn
 rw [setS_ev,if_pos h]
theorem turn_to {tg:T→Rho→Option Rho} {body:SG} {t:T} {ρ ρ1:Rho} (h:tg t ρ = some ρ1):turn tg body t ρ = body ρ1:=by
 unfold turn
 rw [h]
theorem rds_rngN (n:Nat) (P:Rho→Prop):Rds (rng 0 n) ((List.range n).map fun k:Nat => iT (k:Int)) P :=
 ⟨by simp,fun ρ _ k h => by simp,fun _ _ => rfl⟩
theorem eqv_nb {x y:D} (hx:nbD x = true) (hy:nbD y = true) (P:Prop) [Decidable P] (h:P↔x = y):PyData.eqv x y = decide P:=by
 have:=eqv_iff hx hy
 by_cases c:P
 ·simp [c,this.mpr (h.mp c)]
 ·have:¬ PyData.eqv x y = true:=fun z => c (h.mpr (this.mp z))
  simp [c,this]
theorem kIn_flat {neg:Bool} {x:D} {t:T} {ds:List D} (h1:seqOf t = some ds) (h2:flatD x = true) (h3:ds.all flatD = true):kIn neg (.d x) t = some (bT (if neg then !(ds.any fun y => PyData.eqv y x) else ds.any fun y => PyData.eqv y x)):=by
 have:kInF neg (.d x) t = some (bT (if neg then !(ds.any fun y => PyData.eqv y x) else ds.any fun y => PyData.eqv y x)):=by
  unfold kInF
  rw [h1]
  simp only [h2,h3,Bool.and_self,if_true]
 show (kInF neg (.d x) t).or _ = _
 rw [this]
 rfl
theorem kIn_map {α:Type} [DecidableEq α] {neg:Bool} {f:α→D} {a:α} {l:List α} {t:T} (h1:seqOf t = some (l.map f)) (hf:∀ b,flatD (f b) = true) (hn:∀ b,nbD (f b) = true) (hi:∀ b c,f b = f c→b = c):kIn neg (.d (f a)) t = some (bT (if neg then !decide (a∈l) else decide (a∈l))):=by
 rw [kIn_flat h1 (hf a) (by simp [hf])]
 have e:((l.map f).any fun y => PyData.eqv y (f a)) = decide (a∈l):=by
  rw [Bool.eq_iff_iff,List.any_eq_true,decide_eq_true_eq]
  constructor
  ·rintro ⟨y,hy,e⟩
   obtain ⟨b,hb,rfl⟩:=List.mem_map.mp hy
   rw [eqv_iff (hn b) (hn a)] at e
   rwa [← hi _ _ e]
  ·intro h
   exact ⟨f a,List.mem_map_of_mem h,(eqv_iff (hn a) (hn a)).mpr rfl⟩
 rw [e]
def hD:Option Nat→D
 | none => .none
 | some n => .int n
abbrev hT (o:Option Nat):T:=.d (hD o)
def hL (row:List (Option Nat)):T:=.lst (row.map fun o => hT o)
theorem hD_inj:∀ {a b:Option Nat},hD a = hD b→a = b
 | none,none,_ => rfl
 | none,some _,h => by simp [hD] at h
 | some _,none,h => by simp [hD] at h
 | some a,some b,h => by
  simp only [hD,PyData.int.injEq] at h
  congr 1
  omega
theorem hD_nb (a:Option Nat):nbD (hD a) = true:=by cases a <;> simp [hD]
theorem hD_imm (a:Option Nat):imm (hD a) = true:=by cases a <;> rfl
theorem hD_ok (n:Nat) (a:Option Nat):Ok n (hD a):=by
 cases a with
 | none => exact .none n
 | some k => exact .int n k
@[simp] theorem indep_hL (row:List (Option Nat)):indep (hL row) = true:=by
 simp only [hL,indep_lst]
 exact indepA_map (f:=hD) hD_imm row
theorem eqv_hD (a b:Option Nat):PyData.eqv (hD a) (hD b) = decide (a = b):=eqv_nb (hD_nb a) (hD_nb b) _ ⟨fun h => h ▸ rfl,hD_inj⟩
theorem kEqv_h (neg:Bool) (a b:Option Nat):kEqv neg (hT a) (hT b) = some (bT (if neg then !decide (a = b) else decide (a = b))):=by
 rw [kEqv_at (n:=0) rfl rfl (hD_ok 0 a) (hD_ok 0 b),eqv_hD]
theorem isNone_h (a:Option Nat):isNone (hT a) = a.isNone:=by cases a <;> rfl
theorem rds_slm {α:Type} (i:Nat) (b:Bool) (f:α→D) (l:List α):Rds (Src.it ⟨some i,b,l.map fun x => T.d (f x)⟩) (l.map fun x => T.d (f x)) (fun ρ => ∃ t,getS ρ i = some t∧seqK b t = some (l.map f)):=by
 have:=rds_sl i b (l.map f)
 rw [List.map_map] at this
 exact this
theorem kEqv_le {α:Type} (neg:Bool) {f:α→D} {n:Nat} (h:∀ a,Ok n (f a)) (l:List α) (hn:n < 64:=by omega):kEqv neg (.lst (l.map fun x => T.d (f x))) (.lst []) = some (bT (if neg then !l.isEmpty else l.isEmpty)):=by
 rw [kEqv_at (n:=n + 1) (x:=.list (l.map f)) (y:=.list []) (by simp) (by simp) (.list (.map fun a _ => h a)) (.list (.nil _))]
 have:PyData.eqv (.list (l.map f)) (.list []) = l.isEmpty:=by
  cases l <;> simp [PyData.eqv,PyData.eqvAll]
 rw [this]
def hAt (row:List (Option Nat)) (k:Nat):Option Nat:=row.getD k none
theorem hAt_get (row:List (Option Nat)) {k:Nat} (h:k < row.length):row[k]? = some (hAt row k):=by
 unfold hAt
 rw [List.getD_eq_getElem?_getD,List.getElem?_eq_getElem h]
 rfl
theorem atI_hT (row:List (Option Nat)) {k:Nat} (h:k < row.length):atI (row.map fun o => hT o) (k:Int) = some (hT (hAt row k)):=atI_nat (by rw [List.getElem?_map,hAt_get row h]; rfl)
theorem getK_none_any {κ α:Type} [DecidableEq κ] (kvs:List (κ × α)) (k:κ):(kvs.any fun kv => decide (kv.1 = k)) = (getK kvs k).isSome:=by
 induction kvs with
 | nil => rfl
 | cons x r ih =>
  unfold getK at ih ⊢
  by_cases e:x.1 = k <;> simp [e,List.any_cons,ih]
theorem getK_cons {κ α:Type} [DecidableEq κ] (x:κ × α) (r:List (κ × α)) (k:κ):getK (x :: r) k = if x.1 = k then some x.2 else getK r k:=by
 unfold getK
 by_cases e:x.1 = k <;> simp [e]
@[simp] theorem putC_d {κ:Type} [DecidableEq κ] (kvs:List (κ × T)) (k:κ) (x:D):putC kvs k (.d x) = true:=by simp [putC]
theorem kIn_dT (neg:Bool) (ds:List D) (kvs:List (List Key × T)):kIn neg (.d (.tuple ds)) (.dT kvs) = (keysD ds).map fun k => bT (if neg then !(getK kvs k).isSome else (getK kvs k).isSome):=by
 show (kInF neg _ _).or ((kInD neg _ _).or (kInK neg _ _)) = _
 have e1:kInF neg (.d (.tuple ds)) (.dT kvs) = none:=by simp [kInF,seqOf,listOf,tupOf]
 have e2:kInD neg (.d (.tuple ds)) (.dT kvs) = none:=by simp [kInD,seqOf,listOf,tupOf]
 rw [e1,e2]
 rfl
end Hu
namespace Hu
namespace G
open PySem L2
structure Web where
 many:Nat
 ties:List (Nat × Nat)
def tieD (p:Nat × Nat):D:=.tuple [.int p.1,.int p.2]
def Web.d (W:Web):D:=.tuple [.int W.many,.tuple (W.ties.map tieD)]
def Web.Ok (W:Web):Prop:=∀ p,p∈W.ties→p.1 < p.2∧p.2 < W.many
abbrev wT (W:Web):T:=.d W.d
@[simp] theorem imm_w (W:Web):imm W.d = true:=by
 simp [Web.d]
 exact immA_map (fun _ => rfl) _
@[simp] theorem kIx_w0 (W:Web):kIx (wT W) (iT 0) = some (iT W.many):=by simp [wT,Web.d]
@[simp] theorem kIx_w1 (W:Web):kIx (wT W) (iT 1) = some (.d (.tuple (W.ties.map tieD))):=by simp [wT,Web.d]
def Web.tie (W:Web) (i:Nat):Nat × Nat:=W.ties.getD i (0,0)
def Web.meets (W:Web) (i j:Nat):Bool:=let a:=W.tie i; let b:=W.tie j; a.1 == b.1||a.1 == b.2||a.2 == b.1||a.2 == b.2
theorem tie_at (W:Web) {i:Nat} (h:i < W.ties.length):W.ties[i]? = some (W.tie i):=by
 unfold Web.tie
 rw [List.getD_eq_getElem?_getD,List.getElem?_eq_getElem h]
 rfl
theorem atI_ties (W:Web) {i:Nat} (h:i < W.ties.length):atI (W.ties.map tieD) (i:Int) = some (tieD (W.tie i)):=atI_nat (by rw [List.getElem?_map,tie_at W h]; rfl)
theorem kIn_pair (neg:Bool) (a b c:Nat):kIn neg (iT (a:Int)) (.d (.tuple [.int (b:Int),.int (c:Int)])) = some (bT (if neg then !(a == b||a == c) else (a == b||a == c))):=by
 rw [kIn_flat (ds:=[.int b,.int c]) rfl rfl rfl]
 have e:([PyData.int (b:Int),PyData.int (c:Int)].any fun y => PyData.eqv y (.int a)) = (a == b||a == c):=by
  simp only [List.any_cons,List.any_nil,PyData.eqv,Bool.or_false]
  rw [Bool.eq_iff_iff]
  simp only [Bool.or_eq_true,beq_iff_eq]
  omega
 rw [e]
def nL (l:List Nat):T:=.lst (l.map fun k:Nat => iT (k:Int))
@[simp] theorem indep_nL (l:List Nat):indep (nL l) = true:=by
 simp only [nL,indep_lst]
 exact indepA_map (f:=fun k:Nat => PyData.int (k:Int)) (fun _ => rfl) l
def iL (l:List Int):T:=.lst (l.map fun k => iT k)
@[simp] theorem indep_iL (l:List Int):indep (iL l) = true:=by
 simp only [iL,indep_lst]
 exact indepA_map (f:=PyData.int) (fun _ => rfl) l
@[simp] theorem frzT_iL (l:List Int):frzT (iL l) = some (.d (.list (l.map PyData.int))):=by simp [iL]
@[simp] theorem frzT_nL (l:List Nat):frzT (nL l) = some (.d (.list (l.map fun k:Nat => PyData.int (k:Int)))):=by simp [nL]
def Web.at (W:Web) (t p:Nat):Prop:=t < W.ties.length∧((W.tie t).1 = p∨(W.tie t).2 = p)
def tiesAt (W:Web) (p:Nat):List Nat:=(List.range W.ties.length).filter fun t => (W.tie t).1 == p||(W.tie t).2 == p
theorem mem_tiesAt {W:Web} {p t:Nat}:t∈tiesAt W p↔t < W.ties.length∧((W.tie t).1 = p∨(W.tie t).2 = p):=by
 simp [tiesAt]
def far (W:Web) (t p:Nat):Nat:=if (W.tie t).1 = p then (W.tie t).2 else (W.tie t).1
theorem Web.Ok.tie {W:Web} (h:W.Ok) {t:Nat} (ht:t < W.ties.length):(W.tie t).1 < (W.tie t).2∧(W.tie t).2 < W.many:=h _ (List.mem_of_getElem? (tie_at W ht))
theorem far_at {W:Web} (h:W.Ok) {t p:Nat} (a:W.at t p):W.at t (far W t p)∧far W t p≠p∧far W t p < W.many:=by
 obtain ⟨ht,a⟩:=a
 have k:=h.tie ht
 unfold far Web.at
 split
 ·exact ⟨⟨ht,.inr rfl⟩,by omega,by omega⟩
 ·exact ⟨⟨ht,.inl rfl⟩,by omega,by omega⟩
theorem far_ends {W:Web} {t p q:Nat} (a:W.at t p) (b:W.at t q):q = p∨q = far W t p:=by
 unfold far
 obtain ⟨_,a⟩:=a
 obtain ⟨_,b⟩:=b
 split <;> omega
def nextAt (W:Web) (row:List (Option Nat)) (p h:Nat):Option Nat:=(tiesAt W p).find? fun t => decide (hAt row t = some h)
structure Wk where
 ts:List Nat
 p:Nat
 a:Nat
 b:Nat
def Wk.step (W:Web) (row:List (Option Nat)) (s:Wk):Wk:=match nextAt W row s.p s.a with
 | none => s
 | some t => ⟨s.ts++[t],far W t s.p,s.b,s.a⟩
def walkN (W:Web) (row:List (Option Nat)) (p a b:Nat):Nat→Wk
 | 0 => ⟨[],p,a,b⟩
 | n + 1 => (walkN W row p a b n).step W row
structure WkOk (W:Web) (row:List (Option Nat)) (ps:List Nat) (s:Wk):Prop where
 nd:(s.p :: ps).Nodup
 ends:∀ t,t∈s.ts→t < W.ties.length∧∀ q,W.at t q→q∈s.p :: ps
 cl:∀ x,x∈ps→∀ t,W.at t x→hAt row t = some s.a∨hAt row t = some s.b→t∈s.ts
 hd:∀ t,t∈s.ts→W.at t s.p→hAt row t = some s.b
 arr:∀ t,W.at t s.p→hAt row t = some s.b→t∈s.ts
 tn:s.ts.Nodup
 ne:s.a≠s.b
 lt:s.p < W.many
section
variable {W:Web} {row:List (Option Nat)}
def rowAt (W:Web) (row:List (Option Nat)) (p a b:Nat):List Nat:=(walkN W row p a b W.ties.length).ts
end
theorem numd_ties (W:Web):numd ((W.ties.map tieD).map T.d) = (List.range W.ties.length).map fun k:Nat => T.d (.tuple [.int (k:Int),tieD (W.tie k)]):=by
 apply List.ext_getElem
 ·simp [numd]
 ·intro n h1 h2
  have hn:n < W.ties.length:=by simpa [numd] using h1
  have e:=tie_at W hn
  rw [List.getElem?_eq_getElem hn] at e
  have e:=Option.some.inj e
  simp [numd,e]
theorem kIn_tie (neg:Bool) (p:Nat) (q:Nat × Nat):kIn neg (iT (p:Int)) (.d (tieD q)) = some (bT (if neg then !(q.1 == p||q.2 == p) else (q.1 == p||q.2 == p))):=by
 have:=kIn_pair neg p q.1 q.2
 have e:∀ a b:Nat,(a == b) = (b == a):=fun a b => by rw [Bool.eq_iff_iff,beq_iff_eq,beq_iff_eq]; omega
 rw [e p q.1,e p q.2] at this
 exact this
def huesOf (row:List (Option Nat)) (l:List Nat):List Int:=(l.filter fun t => (hAt row t).isSome).map fun t => (((hAt row t).getD 0:Nat):Int)
end G
end Hu
namespace Hu
open PySem L2
abbrev XP:=Str→Option (Str × T)→Rho→Prop
abbrev noX:XP:=fun _ _ _ => False
abbrev noC:Rho→Prop:=fun _ => False
abbrev noR:T→Rho→Prop:=fun _ _ => False
def SOut.sat (N C:Rho→Prop) (R:T→Rho→Prop) (X:XP):SOut→Prop
 | .nx ρ => N ρ
 | .ct ρ => C ρ
 | .rt t ρ => R t ρ
 | .ex c f ρ => X c f ρ
 | .bad => False
section
variable {N C N' C':Rho→Prop} {R R':T→Rho→Prop} {X X':XP} {ρ ρ1 ρ0:Rho}
@[simp] theorem sat_nx:(SOut.nx ρ).sat N C R X↔N ρ:=Iff.rfl
@[simp] theorem sat_ct:(SOut.ct ρ).sat N C R X↔C ρ:=Iff.rfl
@[simp] theorem sat_rt (t:T):(SOut.rt t ρ).sat N C R X↔R t ρ:=Iff.rfl
@[simp] theorem sat_ex (c:Str) (f:Option (Str × T)):(SOut.ex c f ρ).sat N C R X↔X c f ρ:=Iff.rfl
@[simp ↓] theorem sat_seq (g h:SG):(sSeq g h ρ).sat N C R X↔(g ρ).sat (fun ρ1 => (h ρ1).sat N C R X) C R X:=by
 rw [sSeq_ev]
 cases g ρ <;> rfl
@[simp ↓] theorem sat_pass:(sPass ρ).sat N C R X↔N ρ:=Iff.rfl
theorem SOut.sat.imp {o:SOut} (h:o.sat N C R X) (hn:∀ ρ,N ρ→N' ρ) (hc:∀ ρ,C ρ→C' ρ) (hr:∀ t ρ,R t ρ→R' t ρ) (hx:∀ c f ρ,X c f ρ→X' c f ρ):o.sat N' C' R' X':=by
 cases o with
 | nx ρ => exact hn ρ h
 | ct ρ => exact hc ρ h
 | rt t ρ => exact hr t ρ h
 | ex c f ρ => exact hx c f ρ h
 | bad => exact h
theorem nx_of {o:SOut} (h:o.sat N noC (fun _ _ => False) noX):∃ ρ,o = .nx ρ∧N ρ:=by
 cases o with
 | nx ρ => exact ⟨ρ,rfl,h⟩
 | ct ρ => exact h.elim
 | rt t ρ => exact h.elim
 | ex c f ρ => exact h.elim
 | bad => exact h.elim
theorem fn_ret {n k:Nat} {st:List Nat} {g:SG} {ts:List T} {Q:T→Rho→Prop} (h:(g (ts.map some++List.replicate (k - n) none)).sat (fun ρ => Q (.d .none) (backS st n ρ)) noC (fun t ρ => Q t (backS st n ρ)) noX):∃ t back,fnOf n k st g ts = .ret t back∧Q t back:=by
 rw [fnOf_ev]
 cases e:g (ts.map some++List.replicate (k - n) none) with
 | nx ρ => rw [e] at h; exact ⟨_,_,rfl,h⟩
 | ct ρ => rw [e] at h; exact h.elim
 | rt t ρ => rw [e] at h; exact ⟨_,_,rfl,h⟩
 | ex c f ρ => rw [e] at h; exact h.elim
 | bad => rw [e] at h; exact h.elim
theorem fn_to {n k:Nat} {st:List Nat} {g:SG} {ts:List T} {t:T} {back:Rho} (h:(g (ts.map some++List.replicate (k - n) none)).sat (fun ρ => t = .d .none∧backS st n ρ = back) noC (fun u ρ => u = t∧backS st n ρ = back) noX):fnOf n k st g ts = .ret t back:=by
 obtain ⟨u,b,e,h1,h2⟩:=fn_ret (Q:=fun u b => u = t∧b = back) (h.imp (fun _ h => ⟨h.1.symm,h.2⟩) (fun _ h => h) (fun _ _ h => h) fun _ _ _ h => h)
 rw [e,h1,h2]
end
section
variable {N C:Rho→Prop} {R:T→Rho→Prop} {X:XP} {ρ ρ0:Rho} {w:It0} {xs:List T} {RP:Rho→Prop} {tg:T→Rho→Option Rho} {body g:SG} {st:List Nat} {it:G It0}
theorem loop_sat (Rd:Rds w xs RP) (P:Nat→Rho→Prop) (hP:∀ k ρ,P k ρ→RP ρ) (step:∀ k (hk:k < xs.length) ρ,P k ρ→(turn tg body xs[k] ρ).sat (P (k + 1)) (P (k + 1)) R X) (hN:∀ ρ,P xs.length ρ→N ρ) :
  ∀ n k ρ,k + n = xs.length→P k ρ→(loopN w.item w.fin tg body n k ρ).sat N C R X
 | 0,k,ρ,h,p => by
  have e:k = xs.length:=by omega
  subst e
  simp [loopN,Rd.fin ρ (hP _ _ p)]
  exact hN ρ p
 | n + 1,k,ρ,h,p => by
  have hk:k < xs.length:=by omega
  have s:=step k hk ρ p
  have hi:=Rd.item ρ (hP _ _ p) k hk
  unfold turn at s
  cases c:tg xs[k] ρ with
  | none => rw [c] at s; exact s.elim
  | some ρ1 =>
   rw [c] at s
   simp only at s
   cases c2:body ρ1 with
   | nx ρ2 =>
    rw [c2] at s
    have:=loop_sat Rd P hP step hN n (k + 1) ρ2 (by omega) s
    simpa [loopN,hi,c,c2] using this
   | ct ρ2 =>
    rw [c2] at s
    have:=loop_sat Rd P hP step hN n (k + 1) ρ2 (by omega) s
    simpa [loopN,hi,c,c2] using this
   | rt t ρ2 => rw [c2] at s; simpa [loopN,hi,c,c2] using s
   | ex e f ρ2 => rw [c2] at s; simpa [loopN,hi,c,c2] using s
   | bad => rw [c2] at s; exact s.elim
theorem sat_for (hg:g = sFor st it tg body) (hi:it ρ0 = .ok w ρ) (Rd:Rds w xs RP) (hd:disj w.ls st = true) (P:Nat→Rho→Prop) (hP:∀ k ρ,P k ρ→RP ρ) (h0:P 0 ρ)
  (step:∀ k (hk:k < xs.length) ρ,P k ρ→(turn tg body xs[k] ρ).sat (P (k + 1)) (P (k + 1)) R X) (hN:∀ ρ,P xs.length ρ→N ρ):(g ρ0).sat N C R X:=by
 subst hg
 have:=loop_sat (N:=N) (C:=C) Rd P hP step hN w.n 0 ρ (by simpa using Rd.n) h0
 simpa [sFor,hi,hd] using this
theorem sat_rng {n:Nat} (hg:g = sFor st it tg body) (hi:it ρ0 = .ok (rng 0 n) ρ) (P:Nat→Rho→Prop) (h0:P 0 ρ)
  (step:∀ k,k < n→∀ ρ,P k ρ→(turn tg body (iT (k:Int)) ρ).sat (P (k + 1)) (P (k + 1)) R X) (hN:∀ ρ,P n ρ→N ρ):(g ρ0).sat N C R X:=by
 refine sat_for hg hi (rds_rngN n fun _ => True) rfl P (fun _ _ _ => trivial) h0 (fun k hk ρ p => ?_) fun ρ p => hN ρ (by simpa using p)
 have:=step k (by simpa using hk) ρ p
 rw [List.getElem_map,List.getElem_range]
 exact this
theorem sat_list {α:Type} {l:List α} {enc:α→T} (hg:g = sFor st it tg body) (hi:it ρ0 = .ok w ρ) (Rd:Rds w (l.map enc) RP) (hd:disj w.ls st = true) (P:List α→List α→Rho→Prop) (hP:∀ pre post ρ,P pre post ρ→RP ρ) (h0:P [] l ρ)
  (step:∀ pre a post ρ,l = pre++a :: post→P pre (a :: post) ρ→(turn tg body (enc a) ρ).sat (P (pre++[a]) post) (P (pre++[a]) post) R X) (hN:∀ ρ,P l [] ρ→N ρ):(g ρ0).sat N C R X:=by
 refine sat_for hg hi Rd hd (fun k ρ => P (l.take k) (l.drop k) ρ) (fun k ρ p => hP _ _ ρ p) (by simpa using h0) (fun k hk ρ p => ?_) fun ρ p => hN ρ (by simpa using p)
 have hk':k < l.length:=by simpa using hk
 have dk:=List.drop_eq_getElem_cons hk'
 have p:P (l.take k) (l.drop k) ρ:=p
 rw [dk] at p
 have:=step (l.take k) l[k] (l.drop (k + 1)) ρ (by rw [← dk]; simp) p
 rw [List.take_succ_eq_append_getElem hk',List.getElem_map]
 exact this
theorem sat_while {c:G Bool} (hg:g = sWhile c body) (P:Nat→Rho→Prop) {n:Nat} (h0:P n ρ0)
  (step:∀ n ρ,P n ρ→∃ b ρ1,c ρ = .ok b ρ1∧(b = false→N ρ1)∧(b = true→(body ρ1).sat (fun ρ2 => ∃ m,m < n∧P m ρ2) (fun ρ2 => ∃ m,m < n∧P m ρ2) R noX)):(g ρ0).sat N C R X:=by
 subst hg
 rcases while_inv (c:=c) (body:=body) P N R (fun n ρ p => by
  obtain ⟨b,ρ1,h1,h2,h3⟩:=step n ρ p
  refine ⟨b,ρ1,h1,h2,fun hb => ?_⟩
  have s:=h3 hb
  cases e:body ρ1 with
  | nx ρ2 => rw [e] at s; obtain ⟨m,lt,pm⟩:=s; exact .inl ⟨ρ2,m,.inl rfl,lt,pm⟩
  | ct ρ2 => rw [e] at s; obtain ⟨m,lt,pm⟩:=s; exact .inl ⟨ρ2,m,.inr rfl,lt,pm⟩
  | rt t ρ2 => rw [e] at s; exact .inr ⟨t,ρ2,rfl,s⟩
  | ex _ _ _ => rw [e] at s; exact s.elim
  | bad => rw [e] at s; exact s.elim) n ρ0 h0 with ⟨ρ',e,h⟩ | ⟨t,ρ',e,h⟩
 ·rw [e]; exact h
 ·rw [e]; exact h
theorem turn_setS {i:Nat} {t:T} (h:i < ρ.length):(turn (setS i) body t ρ).sat N C R X↔(body (ρ.set i (some t))).sat N C R X:=by rw [turn_set h]
end
end Hu
namespace Hu
namespace G
open PySem L2
def sortN (l:List Nat):List Nat:=(sortI (l.map fun k:Nat => (k:Int))).map Int.toNat
theorem sortN_perm (l:List Nat):(sortN l).Perm l:=by
 unfold sortN
 have h:=(sortI_perm (l.map fun k:Nat => (k:Int))).map Int.toNat
 rw [List.map_map] at h
 have e:(Int.toNat ∘ fun k:Nat => (k:Int)) = id:=by funext k; simp
 rwa [e,List.map_id] at h
theorem sortI_cast (l:List Nat):sortI (l.map fun k:Nat => (k:Int)) = (sortN l).map fun k:Nat => (k:Int):=by
 unfold sortN
 rw [List.map_map]
 refine ((List.map_congr_left fun x hx => ?_).trans (List.map_id _)).symm
 obtain ⟨k,_,rfl⟩:=List.mem_map.mp ((sortI_perm _).mem_iff.mp hx)
 simp
theorem sortN_mem {l:List Nat} {x:Nat}:x∈sortN l↔x∈l:=(sortN_perm l).mem_iff
theorem sortN_asc (l:List Nat):(sortN l).Pairwise (·≤·):=by
 have h:=sortI_sorted (l.map fun k:Nat => (k:Int))
 rw [sortI_cast,List.pairwise_map] at h
 exact h.imp fun h => by omega
theorem meets_symm (W:Web) (i j:Nat):W.meets i j = W.meets j i:=by
 unfold Web.meets
 rw [Bool.eq_iff_iff]
 simp only [Bool.or_eq_true,beq_iff_eq]
 omega
section
variable (W:Web) (row:List (Option Nat)) (a b:Nat)
def inAB (t:Nat):Bool:=decide (hAt row t = some a)||decide (hAt row t = some b)
structure JoinOk (n:Nat) (rows:List (List Nat)):Prop where
 low:∀ r,r∈rows→∀ t,t∈r→t < n∧inAB row a b t = true
 cov:∀ t,t < n→inAB row a b t = true→∃ r,r∈rows∧t∈r
 cl:∀ r,r∈rows→∀ t,t∈r→∀ u,u < n→inAB row a b u = true→W.meets t u = true→u∈r
 nd:rows.flatten.Nodup
theorem JoinOk.len {n:Nat} {rows:List (List Nat)} (J:JoinOk W row a b n rows):rows.flatten.length≤n:=by
 have:=nodup_le J.nd (m:=List.range n) fun x hx => by
  obtain ⟨r,h1,h2⟩:=List.mem_flatten.mp hx
  simpa using (J.low r h1 x h2).1
 simpa using this
structure Shut (n:Nat) (ts:List Nat):Prop where
 low:∀ t,t∈ts→t < n∧inAB row a b t = true
 cl:∀ t,t∈ts→∀ u,u < n→inAB row a b u = true→W.meets t u = true→u∈ts
theorem JoinOk.shut {n:Nat} {rows:List (List Nat)} (J:JoinOk W row a b n rows) {r:List Nat} (h:r∈rows):Shut W row a b n r:=⟨J.low r h,J.cl r h⟩
theorem Shut.nil (n:Nat):Shut W row a b n []:=⟨by simp,by simp⟩
theorem Shut.app {n:Nat} {r s:List Nat} (h:Shut W row a b n r) (h':Shut W row a b n s):Shut W row a b n (r++s):=⟨fun t ht => by
  rcases List.mem_append.mp ht with z | z
  ·exact h.low t z
  ·exact h'.low t z,fun t ht u hu hi m => by
  rcases List.mem_append.mp ht with z | z
  ·exact List.mem_append_left _ (h.cl t z u hu hi m)
  ·exact List.mem_append_right _ (h'.cl t z u hu hi m)⟩
theorem Shut.of {n:Nat} {r s:List Nat} (h:Shut W row a b n r) (e:∀ x,x∈s↔x∈r):Shut W row a b n s:=⟨fun t ht => h.low t ((e t).mp ht),fun t ht u hu hi m => (e u).mpr (h.cl t ((e t).mp ht) u hu hi m)⟩
def exch (ts:List Nat):List (Option Nat):=(List.range row.length).map fun t => if t∈ts then (if hAt row t = some a then some b else some a) else hAt row t
@[simp] theorem exch_len (ts:List Nat):(exch row a b ts).length = row.length:=by simp [exch]
theorem exch_at (ts:List Nat) {t:Nat} (h:t < row.length):hAt (exch row a b ts) t = if t∈ts then (if hAt row t = some a then some b else some a) else hAt row t:=by
 have g:=hAt_get (exch row a b ts) (k:=t) (by simpa using h)
 unfold exch at g
 rw [List.getElem?_map,List.getElem?_range h,Option.map_some] at g
 exact (Option.some.inj g).symm
end
section
variable (W:Web) (row:List (Option Nat)) (a b:Nat)
def okT (t:Nat):Prop:=t < row.length∧inAB row a b t = true
inductive Rch (t:Nat):Nat→Prop
 | refl:Rch t t
 | step {u v:Nat}:Rch t u→W.meets u v = true→okT row a b v→Rch t v
variable {W row a b}
theorem Rch.trans {t u v:Nat} (h:Rch W row a b t u) (h':Rch W row a b u v):Rch W row a b t v:=by
 induction h' with
 | refl => exact h
 | step _ m o ih => exact .step ih m o
theorem Rch.ok {t u:Nat} (h:Rch W row a b t u) (ht:okT row a b t):okT row a b u:=by
 cases h with
 | refl => exact ht
 | step _ _ o => exact o
theorem Rch.symm {t u:Nat} (h:Rch W row a b t u) (ht:okT row a b t):Rch W row a b u t:=by
 induction h with
 | refl => exact .refl
 | step h1 m o ih =>
  exact Rch.trans (.step .refl (by rw [meets_symm]; exact m) (h1.ok ht)) ih
theorem Shut.rch {r:List Nat} (S:Shut W row a b row.length r) {t u:Nat} (ht:t∈r) (h:Rch W row a b t u):u∈r:=by
 induction h with
 | refl => exact ht
 | step _ m o ih => exact S.cl _ ih _ o.1 o.2 m
variable (W row a b)
structure Comp (r:List Nat):Prop where
 shut:Shut W row a b row.length r
 con:∀ t u,t∈r→u∈r→Rch W row a b t u
 asc:r.Pairwise (· < ·)
 ne:r≠[]
variable {W row a b}
theorem asc_eq {r s:List Nat} (hr:r.Pairwise (· < ·)) (hs:s.Pairwise (· < ·)) (e:∀ x,x∈r↔x∈s):r = s :=
 List.Perm.eq_of_pairwise (le:=fun x y:Nat => x < y) (fun x y _ _ h1 h2 => absurd h1 (by omega)) hr hs ((List.perm_ext_iff_of_nodup (hr.imp fun h => by omega) (hs.imp fun h => by omega)).mpr e)
theorem Comp.eq {r s:List Nat} (h:Comp W row a b r) (h':Comp W row a b s) {t:Nat} (h1:t∈r) (h2:t∈s):r = s :=
 asc_eq h.asc h'.asc fun x => ⟨fun hx => h'.shut.rch h2 (h.con t x h1 hx),fun hx => h.shut.rch h1 (h'.con t x h2 hx)⟩
theorem Comp.head {r:List Nat} (h:Comp W row a b r):∃ x s,r = x :: s∧∀ y,y∈s→x < y:=by
 cases r with
 | nil => exact absurd rfl h.ne
 | cons x s => exact ⟨x,s,rfl,(List.pairwise_cons.mp h.asc).1⟩
structure RowsOk (k:Nat) (F:List (List Nat)):Prop where
 comp:∀ r,r∈F→Comp W row a b r
 cov:∀ t,t < k→okT row a b t→t∈F.flatten
 low:∀ r,r∈F→∃ x,x∈r∧x < k
 asc:F.Pairwise fun r s => r.headD 0 < s.headD 0
theorem RowsOk.nil:RowsOk (W:=W) (row:=row) (a:=a) (b:=b) 0 []:=⟨by simp,by omega,by simp,by simp⟩
theorem RowsOk.skip {k:Nat} {F:List (List Nat)} (h:RowsOk (W:=W) (row:=row) (a:=a) (b:=b) k F) (hk:okT row a b k→k∈F.flatten):RowsOk (W:=W) (row:=row) (a:=a) (b:=b) (k + 1) F :=
 ⟨h.comp,fun t ht o => by
  by_cases c:t = k
  ·subst c; exact hk o
  ·exact h.cov t (by omega) o,fun r hr => by
  obtain ⟨x,hx,lt⟩:=h.low r hr
  exact ⟨x,hx,by omega⟩,h.asc⟩
theorem RowsOk.fresh {k:Nat} {F:List (List Nat)} (h:RowsOk (W:=W) (row:=row) (a:=a) (b:=b) k F) {r:List Nat} (hr:Comp W row a b r) (hk:k∈r) (no:k∉F.flatten):(∀ u,u∈r→u∉F.flatten)∧∀ u,u∈r→k≤u:=by
 have n1:∀ u,u∈r→u∉F.flatten:=fun u hu hf => by
  obtain ⟨s,hs,hus⟩:=List.mem_flatten.mp hf
  have e:=hr.eq (h.comp s hs) hu hus
  subst e
  exact no (List.mem_flatten.mpr ⟨_,hs,hk⟩)
 exact ⟨n1,fun u hu => by
  refine Nat.le_of_not_lt fun c => n1 u hu (h.cov u c ?_)
  exact hr.shut.low u hu⟩
theorem RowsOk.add {k:Nat} {F:List (List Nat)} (h:RowsOk (W:=W) (row:=row) (a:=a) (b:=b) k F) {r:List Nat} (hr:Comp W row a b r) (hk:k∈r) (no:k∉F.flatten):RowsOk (W:=W) (row:=row) (a:=a) (b:=b) (k + 1) (F++[r]):=by
 obtain ⟨n1,n2⟩:=h.fresh hr hk no
 have hd:r.headD 0 = k:=by
  obtain ⟨x,s,rfl,lt⟩:=hr.head
  have h1:=n2 x (by simp)
  rcases List.mem_cons.mp hk with z | z
  ·simp [z]
  ·have:=lt k z; omega
 refine ⟨fun s hs => ?_,fun t ht o => ?_,fun s hs => ?_,?_⟩
 ·rcases List.mem_append.mp hs with hs | hs
  ·exact h.comp s hs
  ·simp only [List.mem_singleton] at hs; subst hs; exact hr
 ·rw [List.flatten_append,List.mem_append]
  by_cases c:t = k
  ·subst c; exact .inr (by simpa using hk)
  ·exact .inl (h.cov t (by omega) o)
 ·rcases List.mem_append.mp hs with hs | hs
  ·obtain ⟨x,hx,lt⟩:=h.low s hs
   exact ⟨x,hx,by omega⟩
  ·simp only [List.mem_singleton] at hs; subst hs; exact ⟨k,hk,by omega⟩
 ·rw [List.pairwise_append]
  refine ⟨h.asc,by simp,fun s hs t ht => ?_⟩
  simp only [List.mem_singleton] at ht
  subst ht
  rw [hd]
  obtain ⟨x,hx,lt⟩:=h.low s hs
  obtain ⟨y,q,rfl,lq⟩:=(h.comp s hs).head
  simp only [List.headD_cons]
  rcases List.mem_cons.mp hx with z | z
  ·omega
  ·have:=lq x z; omega
variable (W row a b)
variable {W row a b}
variable (W row a b)
structure Bfs (t:Nat) (ms ws:List Nat):Prop where
 nd:ms.Nodup
 mem:t∈ms
 ok:∀ u,u∈ms→Rch W row a b t u
 sub:∀ u,u∈ws→u∈ms
 wnd:ws.Nodup
 done:∀ u,u∈ms→u∉ws→∀ v,okT row a b v→W.meets u v = true→v∈ms
variable {W row a b}
theorem Bfs.start (t:Nat):Bfs W row a b t [t] [t]:=⟨by simp,by simp,fun u hu => by simp at hu; subst hu; exact .refl,fun u hu => hu,by simp,fun u hu no => absurd hu no⟩
theorem Bfs.len {t:Nat} {ms ws:List Nat} (h:Bfs W row a b t ms ws) (ht:okT row a b t):ms.length≤row.length:=by
 have:=nodup_le h.nd (m:=List.range row.length) fun u hu => by simpa using ((h.ok u hu).ok ht).1
 simpa using this
theorem Bfs.next {t x:Nat} {ms ws new nb:List Nat} (h:Bfs W row a b t ms (ws++[x])) (nd:(ms++new).Nodup) (hn:∀ u,u∈new→u∈nb) (hc:∀ v,v∈nb→v∈ms++new) (hb:∀ u,u∈nb↔okT row a b u∧W.meets x u = true):Bfs W row a b t (ms++new) (ws++new):=by
 refine ⟨nd,List.mem_append_left _ h.mem,fun u hu => ?_,fun u hu => ?_,?_,fun u hu no v ov m => ?_⟩
 ·rcases List.mem_append.mp hu with z | z
  ·exact h.ok u z
  ·have:=(hb u).mp (hn u z)
   exact .step (h.ok x (h.sub x (by simp))) this.2 this.1
 ·rcases List.mem_append.mp hu with z | z
  ·exact List.mem_append_left _ (h.sub u (by simp [z]))
  ·exact List.mem_append_right _ z
 ·have n1:=List.nodup_append.mp nd
  refine List.nodup_append.mpr ⟨(List.nodup_append.mp h.wnd).1,n1.2.1,fun u hu v hv => n1.2.2 u (h.sub u (by simp [hu])) v hv⟩
 ·rcases List.mem_append.mp hu with z | z
  ·by_cases c:u = x
   ·subst c
    exact hc v ((hb v).mpr ⟨ov,m⟩)
   ·refine List.mem_append_left _ (h.done u z (fun q => ?_) v ov m)
    rcases List.mem_append.mp q with q | q
    ·exact no (List.mem_append_left _ q)
    ·simp only [List.mem_singleton] at q
     exact c q
  ·exact absurd (List.mem_append_right _ z) no
theorem Bfs.comp {t:Nat} {ms:List Nat} (h:Bfs W row a b t ms []) (ht:okT row a b t):Comp W row a b (sortN ms)∧t∈sortN ms:=by
 have nd:(sortN ms).Nodup:=(sortN_perm ms).nodup_iff.mpr h.nd
 refine ⟨⟨⟨fun u hu => (h.ok u (sortN_mem.mp hu)).ok ht,fun u hu v lv iv m => sortN_mem.mpr (h.done u (sortN_mem.mp hu) (by simp) v ⟨lv,iv⟩ m)⟩,fun u v hu hv => ?_,?_,fun e => ?_⟩,sortN_mem.mpr h.mem⟩
 ·exact ((h.ok u (sortN_mem.mp hu)).symm ht).trans (h.ok v (sortN_mem.mp hv))
 ·exact (List.Pairwise.and (sortN_asc ms) nd).imp fun ⟨h1,h2⟩ => by
   have:¬ _ = _:=h2
   omega
 ·have:=sortN_mem.mpr h.mem
  rw [e] at this
  simp at this
end
section
variable (W:Web) (row:List (Option Nat)) (place hues:Nat)
def hueN (t:Nat):Nat:=(hAt row t).getD 0
def hit (t p:Nat):Bool:=decide (hueN row t < hues)&&!decide ((hueN row t:Int)∈huesOf row (tiesAt W p))
abbrev Fan:=List (Nat × Option Nat)
end
end G
end Hu
namespace Hu
open PySem L2
section
variable {ρ:Rho}
@[simp] theorem gDGet_ev (kk:Option T→List T→Option T) (i:Nat) (os:List Opd) (ρ:Rho):gDGet kk i os ρ = if isDct (getS ρ i) = true then gOs os (fun ts ρ' => match kk (getS ρ' i) ts with
  | some r => .ok r ρ'
  | none => .bad) ρ else .bad:=rfl
@[simp] theorem gSetd_ev (i:Nat) (os:List Opd) (ρ:Rho):gSetd i os ρ = if isDct (getS ρ i) = true then gOs os (fun ts ρ' => match dSetd (getS ρ' i) ts with
  | some (r,u) => .ok r (ρ'.set i (some u))
  | none => .bad) ρ else .bad:=rfl
@[simp] theorem isDct_K (kvs:List (Key × T)):isDct (some (.dK kvs)) = true:=rfl
@[simp] theorem isDct_T (kvs:List (List Key × T)):isDct (some (.dT kvs)) = true:=rfl
@[simp] theorem gMeth_ev (o:Opd) (os:List Opd) (kk:List T→Option T) (ρ:Rho):gMeth o os kk ρ = if o.pre ρ = true then gOs (o.chk :: os) (kP kk) ρ else .bad:=rfl
@[simp] theorem pre_nm (i:Nat) (ρ:Rho):Opd.pre (.nm i) ρ = match getS ρ i with
 | some t => isL t
 | none => false:=rfl
@[simp] theorem pre_pk (g:G T) (ρ:Rho):Opd.pre (.pk g) ρ = true:=rfl
@[simp] theorem pre_val (g:G T) (ρ:Rho):Opd.pre (.val g) ρ = true:=rfl
@[simp] theorem chk_nm (i:Nat):Opd.chk (.nm i) = .nm i:=rfl
@[simp] theorem chk_pk (g:G T):Opd.chk (.pk g) = .pk (chkG g):=rfl
@[simp] theorem chk_val (g:G T):Opd.chk (.val g) = .val (chkG g):=rfl
@[simp] theorem chkG_ev (g:G T) (ρ:Rho):chkG g ρ = (g ρ).bind fun t ρ' => if isL t = true then .ok t ρ' else .bad:=rfl
@[simp] theorem isL_l (ts:List T):isL (.lst ts) = true:=rfl
@[simp] theorem isL_d (ds:List D):isL (.d (.list ds)) = true:=rfl
@[simp] theorem isL_s (ns:List Int):isL (.scr ns) = true:=rfl
@[simp] theorem dGet1N_n (kvs:List (Key × T)):dGet1N (some (.dK kvs)) [.d .none] = some (.d .none):=rfl
@[simp] theorem dGet1N_i (d:T) (i:Int):dGet1N (some d) [.d (.int i)] = (dLook d (.d (.int i))).map fun o => .d (o.getD .none):=by cases d <;> rfl
@[simp] theorem dGet1_ev (d kt:T):dGet1 (some d) [kt] = (dLook d kt).map fun o => .d (o.getD .none):=rfl
@[simp] theorem dGet2_ev (d kt:T) (z:D):dGet2 (some d) [kt,.d z] = (dLook d kt).map fun o => .d (o.getD z):=rfl
@[simp] theorem kRevL_l (ts:List T):kRevL (.lst ts) = (asDs ts).map fun ds => .lst (ds.reverse.map T.d):=by simp [kRevL]
@[simp] theorem kRevL_d (ds:List D):kRevL (.d (.list ds)) = some (.lst (ds.reverse.map T.d)):=rfl
@[simp] theorem sPut2_ev (i j:Nat) (oi oj:Opd) (g:G T) (ρ:Rho):sPut2 i j oi oj g ρ = (g ρ).s fun t ρ1 => match t with
 | .d (.tuple [x,y]) => sPutT i oi (.d x) (sPutT j oj (.d y) fun ρ2 => .nx ρ2) ρ1
 | _ => .bad:=rfl
@[simp] theorem sPutT_ev (i:Nat) (ob:Opd) (t:T) (k:SG) (ρ:Rho):sPutT i ob t k ρ = match getS ρ i with
 | none => .bad
 | some _ => (gOs [ob] (fun ts ρ2 => match putA t (getS ρ2 i) ts with
  | some u => .ok () (ρ2.set i (some u))
  | none => .bad) ρ).s fun _ ρ3 => k ρ3:=rfl
@[simp] theorem kMulS_ev (z:Str) (k:Int):kMulS (.d (.str z)) (.d (.int k)) = if (decide (0≤k)&&decide (k≤1000)&&decide (z.length≤1000)&&decide ((mulS z k.toNat).length≤sizeLine)) = true then some (.d (.str (mulS z k.toNat))) else none:=rfl
@[simp] theorem gFzE_ev (g:G T) (ρ:Rho):gFzE g ρ = (g ρ).bind fun t ρ' => .ok (fzT t) ρ':=rfl
@[simp] theorem fzT_ev (t:T):fzT t = match frzOf t with
 | some x => .d x
 | none => t:=rfl
@[simp] theorem kEqS_ev (neg:Bool) (x y:Str):kEqS neg (.d (.str x)) (.d (.str y)) = some (.d (.bool (if neg then !decide (x = y) else decide (x = y)))):=rfl
@[simp] theorem kIsB_ev (neg:Bool) (x y:Bool):kIsB neg (.d (.bool x)) (.d (.bool y)) = some (.d (.bool (if neg then !decide (x = y) else decide (x = y)))):=rfl
end
theorem kAdd_lists {a b:T} {xs ys:List D} (h1:listOf a = some xs) (h2:listOf b = some ys) (n1:kAddI a b = none) (n2:kAddS a b = none) (h:xs.length + ys.length≤sizeLine):kAdd a b = some (.lst ((xs++ys).map T.d)):=by
 show (kAddI a b).or ((kAddS a b).or ((kAddL a b).or (kAddT a b))) = _
 rw [n1,n2]
 simp [kAddL,h1,h2,h]
@[simp] theorem kAdd_dl (xs:List D) (us:List T):kAdd (.d (.list xs)) (.lst us) = match asDs us with
 | some ys => if xs.length + ys.length≤sizeLine then some (.lst ((xs++ys).map T.d)) else none
 | none => none:=by
 show (none:Option T).or ((none:Option T).or ((kAddL (.d (.list xs)) (.lst us)).or (kAddT (.d (.list xs)) (.lst us)))) = _
 have e:kAddT (.d (.list xs)) (.lst us) = none:=by simp [kAddT]
 rw [e]
 simp only [Option.none_or,Option.or_none,kAddL,listOf_l,listOf_d]
 cases asDs us <;> rfl
@[simp] theorem kAdd_ld (ts:List T) (ys:List D):kAdd (.lst ts) (.d (.list ys)) = match asDs ts with
 | some xs => if xs.length + ys.length≤sizeLine then some (.lst ((xs++ys).map T.d)) else none
 | none => none:=by
 show (none:Option T).or ((none:Option T).or ((kAddL (.lst ts) (.d (.list ys))).or (kAddT (.lst ts) (.d (.list ys))))) = _
 have e:kAddT (.lst ts) (.d (.list ys)) = none:=by simp [kAddT]
 rw [e]
 simp only [Option.none_or,Option.or_none,kAddL,listOf_l,listOf_d]
 all_goals (cases asDs ts <;> rfl)
@[simp] theorem kAdd_dd (xs ys:List D):kAdd (.d (.list xs)) (.d (.list ys)) = if xs.length + ys.length≤sizeLine then some (.lst ((xs++ys).map T.d)) else none:=by
 show (none:Option T).or ((none:Option T).or ((kAddL (.d (.list xs)) (.d (.list ys))).or (kAddT (.d (.list xs)) (.d (.list ys))))) = _
 have e:kAddT (.d (.list xs)) (.d (.list ys)) = none:=by simp [kAddT]
 rw [e]
 simp only [Option.none_or,Option.or_none,kAddL,listOf_d]
@[simp] theorem kAdd_tt (xs ys:List D):kAdd (.d (.tuple xs)) (.d (.tuple ys)) = if xs.length + ys.length≤sizeLine then some (.d (.tuple (xs++ys))) else none:=by
 show (none:Option T).or ((none:Option T).or ((kAddL (.d (.tuple xs)) (.d (.tuple ys))).or (kAddT (.d (.tuple xs)) (.d (.tuple ys))))) = _
 have e:kAddL (.d (.tuple xs)) (.d (.tuple ys)) = none:=by simp [kAddL]
 rw [e]
 simp only [Option.none_or,kAddT,tupOf_d]
@[simp] theorem kk3l_ev (k:T→Option Int→Option Int→Option T) (a:T) (i:Int):kk3l k [a,.d (.int i)] = k a (some i) none:=rfl
@[simp] theorem kk3u_ev (k:T→Option Int→Option Int→Option T) (a:T) (i:Int):kk3u k [a,.d (.int i)] = k a none (some i):=rfl
@[simp] theorem kk3_ev (k:T→Option Int→Option Int→Option T) (a:T) (i j:Int):kk3 k [a,.d (.int i),.d (.int j)] = k a (some i) (some j):=rfl
@[simp] theorem kk3n_ev (k:T→Option Int→Option Int→Option T) (a:T):kk3n k [a] = k a none none:=rfl
@[simp] theorem kCut_dt (ds:List D) (lo hi:Option Int):kCut (.d (.tuple ds)) lo hi = some (.d (.tuple (cutD ds lo hi))):=rfl
@[simp] theorem kCut_dl (ds:List D) (lo hi:Option Int):kCut (.d (.list ds)) lo hi = some (.lst ((cutD ds lo hi).map T.d)):=rfl
@[simp] theorem kCut_l (ts:List T) (lo hi:Option Int):kCut (.lst ts) lo hi = (asDs ts).map fun ds => .lst ((cutD ds lo hi).map T.d):=by
 unfold kCut
 rw [listOf_l]
 cases asDs ts <;> simp
theorem cutD_sub (ds:List D) (lo hi:Option Int):∀ x,x∈cutD ds lo hi→x∈ds:=fun x h => List.mem_of_mem_drop (List.mem_of_mem_take h)
@[simp] theorem frzsOf_append (a b:List T):frzsOf (a++b) = (frzsOf a).bind fun x => (frzsOf b).map (x++·):=by
 induction a with
 | nil => simp
 | cons t r ih =>
  simp only [List.cons_append,frzsOf_cons,ih]
  cases frzOf t <;> cases frzsOf r <;> cases frzsOf b <;> rfl
@[simp] theorem asDs_append (a b:List T):asDs (a++b) = (asDs a).bind fun x => (asDs b).map (x++·):=by
 induction a with
 | nil => simp
 | cons t r ih =>
  cases t with
  | d x =>
   simp only [List.cons_append,asDs_cons,ih]
   cases asDs r <;> cases asDs b <;> rfl
  | _ => rfl
@[simp] theorem backL_f {os:List Opd} {io:List Bool} {back ρ:Rho} (h:noT io = true):backL false os io back ρ = ρ.mapIdx fun j u => if j∈borS os io then u.bind frzT else u:=by
 unfold backL
 congr 1
 funext j u
 rw [lentOf_no h]
 simp
 cases u <;> rfl
@[simp] theorem backL_f1 {j:Nat} {os:List Opd} {io:List Bool} {back ρ:Rho} (h:noT io = true):backL false (.nm j :: os) (true :: io) back ρ = (ρ.mapIdx fun k u => if k∈borS os io then u.bind frzT else u).set j (getS back 0):=by
 unfold backL
 apply List.ext_getElem?
 intro k
 rw [List.getElem?_mapIdx,lentOf_one h]
 by_cases c:k = j
 ·subst c
  by_cases l:k < ρ.length
  ·rw [List.getElem?_set_self (by simpa using l)]
   simp [l]
  ·have l':ρ.length≤k:=by omega
   simp [List.getElem?_eq_none l',List.getElem?_eq_none (show ((ρ.mapIdx fun k u => if k∈borS os io then u.bind frzT else u).set k (getS back 0)).length≤k by simpa using l')]
 ·rw [List.getElem?_set_ne (Ne.symm c),List.getElem?_mapIdx]
  simp only [c,if_false,Bool.false_eq_true,borS_nt]
  congr 1
  funext u
  cases u <;> rfl
theorem frzsOf_mapF {α:Type} {g:α→T} {f:α→D} (h:∀ x,frzOf (g x) = some (f x)) (l:List α):frzsOf (l.map g) = some (l.map f):=by
 induction l with
 | nil => rfl
 | cons x r ih => simp [h,ih]
structure Sh (n w:Nat) (d:D):Prop where
 can:d.canLay0 = true
 dep:d.depth≤n
 shw:d.showable = true
 sho:d.intsShort 40 = true
 wei:d.weight≤w
theorem Sh.mono {n m w v:Nat} {d:D} (h:Sh n w d) (l:n≤m) (k:w≤v):Sh m v d:=⟨h.can,Nat.le_trans h.dep l,h.shw,h.sho,Nat.le_trans h.wei k⟩
theorem Sh.ok {n w:Nat} {d:D} (h:Sh n w d) (l:n≤64:=by omega) (k:w≤300000:=by omega):shwOk d = true:=by
 simp only [shwOk,Bool.and_eq_true,decide_eq_true_eq]
 exact ⟨⟨⟨⟨h.can,Nat.le_trans h.dep l⟩,h.sho⟩,h.shw⟩,Nat.le_trans h.wei k⟩
theorem Sh.none (n w:Nat):Sh n w .none:=⟨rfl,by simp [PyData.depth],rfl,rfl,by simp [PyData.weight]⟩
theorem Sh.bool (n w:Nat) (b:Bool):Sh n w (.bool b):=⟨rfl,by simp [PyData.depth],rfl,rfl,by simp [PyData.weight]⟩
theorem log2_of {k n:Nat} (h:k < 2 ^ n) (hn:0 < n):k.log2 < n:=by
 by_cases z:k = 0
 ·subst z
  simpa using hn
 ·exact (Nat.log2_lt z).mpr h
theorem Sh.int (n:Nat) {w:Nat} {i:Int} (h:i.natAbs < 10 ^ 30) (hw:100≤w):Sh n w (.int i):=by
 have l:i.natAbs.log2 < 100:=log2_of (Nat.lt_of_lt_of_le h (by decide)) (by decide)
 refine ⟨by simp [PyData.canLay0],by simp [PyData.depth],?_,?_,?_⟩
 ·simp only [PyData.showable,decide_eq_true_eq]
  omega
 ·have e:=int_text_length_le10 (k:=39) (by decide) (Nat.lt_of_lt_of_le h (by decide))
  have e2:((PyData.int i).shown).length≤40:=by
   show (Str.ofString (toString i)).length≤40
   rw [ofString_length]
   exact e
  simp only [PyData.intsShort,decide_eq_true_eq]
  exact e2
 ·simp only [PyData.weight]
  split <;> omega
theorem shAll {n w:Nat}:∀ {xs:List D},(∀ x,x∈xs→Sh n w x)→PyData.canLayAll0 xs = true∧PyData.depthAll xs≤n∧PyData.showableAll xs = true∧PyData.intsShortAll 40 xs = true∧PyData.weightAll xs≤xs.length * (w + 1)
 | [],_ => ⟨by simp [PyData.canLayAll0],by simp [PyData.depthAll],rfl,rfl,by simp [PyData.weightAll]⟩
 | x :: xs,h => by
  obtain ⟨h1,h2,h3,h4,h5⟩:=shAll (xs:=xs) (n:=n) (w:=w) fun y hy => h y (List.mem_cons_of_mem _ hy)
  obtain ⟨k1,k2,k3,k4,k5⟩:=h x List.mem_cons_self
  refine ⟨by simp [PyData.canLayAll0,h1,k1],by simp only [PyData.depthAll]; omega,by simp [PyData.showableAll,h3,k3],by simp [PyData.intsShortAll,h4,k4],?_⟩
  simp only [PyData.weightAll,List.length_cons,Nat.add_mul,Nat.one_mul]
  omega
theorem Sh.list {n w v:Nat} {xs:List D} (h:∀ x,x∈xs→Sh n w x) (hv:xs.length * (w + 1)≤v):Sh (n + 1) v (.list xs):=by
 obtain ⟨h1,h2,h3,h4,h5⟩:=shAll h
 exact ⟨by simp [PyData.canLay0,h1],by simp only [PyData.depth]; omega,by simp [PyData.showable,h3],by simp [PyData.intsShort,h4],by simp only [PyData.weight]; omega⟩
theorem Sh.tuple {n w v:Nat} {xs:List D} (h:∀ x,x∈xs→Sh n w x) (hv:xs.length * (w + 1)≤v):Sh (n + 1) v (.tuple xs):=by
 obtain ⟨h1,h2,h3,h4,h5⟩:=shAll h
 exact ⟨by simp [PyData.canLay0,h1],by simp only [PyData.depth]; omega,by simp [PyData.showable,h3],by simp [PyData.intsShort,h4],by simp only [PyData.weight]; omega⟩
theorem Sh.str (n:Nat) {w:Nat} {z:Str} (h:z.cps.all (· < 0x110000) = true) (hw:z.cps.size≤w):Sh n w (.str z):=⟨by simpa [PyData.canLay0,PyData.strOk] using h,by simp [PyData.depth],rfl,rfl,by simpa [PyData.weight] using hw⟩
def okS (z:Str):Bool:=z.cps.all (· < 0x110000)&&decide (z.cps.size≤100)
mutual
def smallD:D→Prop
 | .none => True
 | .bool _ => True
 | .int i => i.natAbs < 1000000000000000000000000000000
 | .str z => okS z = true
 | .list xs => smallA xs
 | .tuple xs => smallA xs
 | .dict _ => False
def smallA:List D→Prop
 | [] => True
 | x :: xs => smallD x∧smallA xs
end
mutual
def sizeD:D→Nat
 | .list xs => 1 + sizeA xs
 | .tuple xs => 1 + sizeA xs
 | .none => 1
 | .bool _ => 1
 | .int _ => 1
 | .str _ => 1
 | .dict _ => 1
def sizeA:List D→Nat
 | [] => 0
 | x :: xs => sizeD x + sizeA xs
end
theorem sh_parts {xs:List D} (h:PyData.canLayAll0 xs = true∧PyData.showableAll xs = true∧PyData.intsShortAll 40 xs = true∧PyData.weightAll xs≤sizeA xs * 101):(∀ n,PyData.depthAll xs≤n→Sh (n + 1) ((1 + sizeA xs) * 101 - 1) (.list xs))∧∀ n,PyData.depthAll xs≤n→Sh (n + 1) ((1 + sizeA xs) * 101 - 1) (.tuple xs):=by
 obtain ⟨h1,h3,h4,h5⟩:=h
 constructor <;> intro n hn
 ·exact ⟨by simp [PyData.canLay0,h1],by simp only [PyData.depth]; omega,by simp [PyData.showable,h3],by simp [PyData.intsShort,h4],by simp only [PyData.weight]; omega⟩
 ·exact ⟨by simp [PyData.canLay0,h1],by simp only [PyData.depth]; omega,by simp [PyData.showable,h3],by simp [PyData.intsShort,h4],by simp only [PyData.weight]; omega⟩
mutual
theorem Sh.of:∀ {d:D},smallD d→Sh d.depth (sizeD d * 101 - 1) d
 | .none,_ => .none _ _
 | .bool b,_ => .bool _ _ b
 | .int i,h => .int _ (by simpa [smallD] using h) (by simp [sizeD])
 | .str z,h => by
  simp only [smallD,okS,Bool.and_eq_true,decide_eq_true_eq] at h
  exact .str _ h.1 (by simp only [sizeD]; omega)
 | .list xs,h => by
  have p:=shA_of (xs:=xs) (by simpa [smallD] using h)
  have:=(sh_parts p).1 _ (Nat.le_refl _)
  simp only [sizeD,PyData.depth]
  exact this.mono (by omega) (Nat.le_refl _)
 | .tuple xs,h => by
  have p:=shA_of (xs:=xs) (by simpa [smallD] using h)
  have:=(sh_parts p).2 _ (Nat.le_refl _)
  simp only [sizeD,PyData.depth]
  exact this.mono (by omega) (Nat.le_refl _)
 | .dict _,h => by simp [smallD] at h
theorem shA_of:∀ {xs:List D},smallA xs→PyData.canLayAll0 xs = true∧PyData.showableAll xs = true∧PyData.intsShortAll 40 xs = true∧PyData.weightAll xs≤sizeA xs * 101
 | [],_ => ⟨by simp [PyData.canLayAll0],rfl,rfl,by simp [PyData.weightAll,sizeA]⟩
 | x :: xs,h => by
  simp only [smallA] at h
  obtain ⟨h1,h3,h4,h5⟩:=shA_of h.2
  have k:=Sh.of h.1
  have k5:=k.wei
  have sz:1≤sizeD x:=by cases x <;> simp [sizeD]
  refine ⟨by simp [PyData.canLayAll0,h1,k.can],by simp [PyData.showableAll,h3,k.shw],by simp [PyData.intsShortAll,h4,k.sho],?_⟩
  simp only [PyData.weightAll,sizeA]
  omega
end
@[simp] theorem in62_l6:in62 6 = true:=in62_of (by omega) (by omega)
@[simp] theorem in62_l7:in62 7 = true:=in62_of (by omega) (by omega)
@[simp] theorem in62_l9:in62 9 = true:=in62_of (by omega) (by omega)
@[simp] theorem in62_l11:in62 11 = true:=in62_of (by omega) (by omega)
@[simp] theorem in62_l13:in62 13 = true:=in62_of (by omega) (by omega)
@[simp] theorem in62_l14:in62 14 = true:=in62_of (by omega) (by omega)
@[simp] theorem in62_l15:in62 15 = true:=in62_of (by omega) (by omega)
@[simp] theorem in62_l16:in62 16 = true:=in62_of (by omega) (by omega)
@[simp] theorem in62_l17:in62 17 = true:=in62_of (by omega) (by omega)
@[simp] theorem in62_l18:in62 18 = true:=in62_of (by omega) (by omega)
@[simp] theorem in62_l19:in62 19 = true:=in62_of (by omega) (by omega)
@[simp] theorem in62_l20:in62 20 = true:=in62_of (by omega) (by omega)
@[simp] theorem in62_l24:in62 24 = true:=in62_of (by omega) (by omega)
@[simp] theorem in62_l25:in62 25 = true:=in62_of (by omega) (by omega)
@[simp] theorem in62_l30:in62 30 = true:=in62_of (by omega) (by omega)
@[simp] theorem in62_l32:in62 32 = true:=in62_of (by omega) (by omega)
@[simp] theorem in62_l39:in62 39 = true:=in62_of (by omega) (by omega)
@[simp] theorem in62_l40:in62 40 = true:=in62_of (by omega) (by omega)
@[simp] theorem in62_l45:in62 45 = true:=in62_of (by omega) (by omega)
@[simp] theorem in62_l48:in62 48 = true:=in62_of (by omega) (by omega)
@[simp] theorem in62_l60:in62 60 = true:=in62_of (by omega) (by omega)
@[simp] theorem in62_l63:in62 63 = true:=in62_of (by omega) (by omega)
@[simp] theorem in62_l64:in62 64 = true:=in62_of (by omega) (by omega)
@[simp] theorem in62_l90:in62 90 = true:=in62_of (by omega) (by omega)
@[simp] theorem in62_l120:in62 120 = true:=in62_of (by omega) (by omega)
@[simp] theorem in62_l200:in62 200 = true:=in62_of (by omega) (by omega)
@[simp] theorem in62_l1000:in62 1000 = true:=in62_of (by omega) (by omega)
end Hu
namespace Hu
open PySem L2
@[simp] theorem lendC_j (j:Nat):lendC [.nm j] [true] = true:=by
 rw [lendC_one rfl]
 rfl
@[simp] theorem backC_j (back:Rho):backC [true] back = indepO (getS back 0):=backC_one rfl
@[simp] theorem backL_j (m:Bool) (j:Nat) (back ρ:Rho):backL m [.nm j] [true] back ρ = ρ.set j (getS back 0):=by
 cases m with
 | true => exact backL_one rfl
 | false =>
  rw [backL_f1 rfl]
  congr 1
  apply List.ext_getElem?
  intro k
  rw [List.getElem?_mapIdx]
  cases ρ[k]? <;> rfl
@[simp] theorem indep_ins (c:Str) (fs:List (Str × T)):indep (.ins c fs) = indepF fs:=rfl
@[simp] theorem indepF_nil:indepF [] = true:=rfl
@[simp] theorem indepF_cons (f:Str) (t:T) (fs:List (Str × T)):indepF ((f,t) :: fs) = (indep t&&indepF fs):=rfl
@[simp] theorem imm_list (xs:List D):imm (.list xs) = false:=rfl
@[simp] theorem imm_dict (xs:List (D × D)):imm (.dict xs) = false:=rfl
namespace G
end G
end Hu
namespace Hu
namespace G
open PySem L2
@[simp] theorem sRaise_ev (c:Str) (ρ:Rho):sRaise c ρ = .ex c none ρ:=rfl
@[simp] theorem s_ex {α:Type} (c:Str) (f:Option (Str × T)) (ρ:Rho) (g:α→Rho→SOut):(Out.ex c f ρ:Out α).s g = .ex c f ρ:=rfl
@[simp] theorem bind_ex {α β:Type} (c:Str) (f:Option (Str × T)) (ρ:Rho) (g:α→Rho→Out β):(Out.ex c f ρ:Out α).bind g = .ex c f ρ:=rfl
@[simp] theorem indepX_none:indepX none = true:=rfl
theorem app_at {i a:Nat} {g:G T} {ρ:Rho} {ts xs:List T} {k:Nat} {y:T} (h1:getS ρ i = some (.lst ts)) (h2:getS ρ a = some (iT (k:Int))) (h3:ts[k]? = some (.lst xs)) (hl:xs.length < 16777216) (hi:i < ρ.length) (hg:g (ρ.set i none) = .ok y (ρ.set i none)) :
  gMutL i [.ix (.nm a)] [.val g] mApp ρ = .ok (.d .none) (ρ.set i (some (.lst (ts.set k (.lst (xs++[y])))))):=by
 have lt:k < ts.length:=(List.getElem?_eq_some_iff.mp h3).1
 rw [gMutL_ev]
 have e1:pathOf ρ [.ix (.nm a)] (.lst ts) = some [k]:=by
  simp [pathOf,Acc.at,h2,ixOf,lt,kid,h3]
 have e2:getP [k] (.lst ts) = some (.lst xs):=by simp [getP,kid,h3]
 simp only [h1,e1,e2]
 simp [hg,hl,hi,sizeLine_eq,putP,kid,h3,setKid]
section
variable (W:Web) (row:List (Option Nat)) (p:Nat)
def Fr (h q:Nat):Prop:=∀ x,W.at x q→hAt row x≠some h
structure FanOk (t0:Nat) (F:Fan):Prop where
 hd:F[0]? = some (t0,none)
 bk:∀ i,0 < i→i < F.length→∃ u b h v c,F[i]? = some (u,some b)∧b < i∧W.at u p∧hAt row u = some h∧F[b]? = some (v,c)∧Fr W row h (far W v p)
 nd:(F.map Prod.fst).Nodup
variable {W row p}
inductive Chn (W:Web) (row:List (Option Nat)) (p t0:Nat):List Nat→Prop
 | one:Chn W row p t0 [t0]
 | more {C:List Nat} {v u h:Nat}:Chn W row p t0 (C++[v])→u∉C++[v]→W.at u p→hAt row u = some h→Fr W row h (far W v p)→Chn W row p t0 (C++[v]++[u])
variable (W row p) in
structure Md1 (M:List Nat) (r:List (Option Nat)):Prop where
 len:r.length = row.length
 same:∀ x,x∉M→hAt r x = hAt row x
 at':∀ x,x∈M→W.at x p
 has:∀ x,x∈M→hAt r x = none∨∃ h y,y∈M∧hAt row y = some h∧hAt r x = some h∧Fr W row h (far W x p)
 inj:∀ x y h,x∈M→y∈M→x≠y→hAt r x = some h→hAt r y≠some h
theorem hAt_set {r:List (Option Nat)} {t:Nat} (o:Option Nat) (ht:t < r.length) (x:Nat):hAt (r.set t o) x = if x = t then o else hAt r x:=by
 unfold hAt
 rw [List.getD_eq_getElem?_getD,List.getD_eq_getElem?_getD,List.getElem?_set]
 by_cases c:t = x
 ·subst c; simp [ht]
 ·have c':¬ x = t:=fun e => c e.symm
  simp [c,c']
def mv (r:List (Option Nat)) (f t:Nat):List (Option Nat):=(r.set f none).set t (hAt r f)
end
section
variable (W:Web) (row:List (Option Nat))
variable {W row}
variable {a b:Nat}
end
section
variable {W:Web} {row:List (Option Nat)} {p t0 hues:Nat}
section
variable {a b s:Nat}
def endAt (W:Web) (row:List (Option Nat)) (s a b:Nat):Nat:=(walkN W row s a b W.ties.length).p
structure Way (W:Web) (row:List (Option Nat)) (s a b:Nat):Prop where
 shut:Shut W row a b row.length (rowAt W row s a b)
 fst:∀ x,W.at x s→hAt row x = some a→x∈rowAt W row s a b
 tch:∀ x q,x∈rowAt W row s a b→W.at x q→Fr W row a q∨Fr W row b q→q = s∨q = endAt W row s a b
 con:∀ x,x∈rowAt W row s a b→∃ f,W.at f s∧hAt row f = some a∧f∈rowAt W row s a b∧Rch W row a b f x
 fin:(rowAt W row s a b = []∧endAt W row s a b = s)∨∃ x,x∈rowAt W row s a b∧W.at x (endAt W row s a b)
 ends:rowAt W row s a b≠[]→endAt W row s a b≠s
end
end
inductive Wlk (W:Web):Nat→List Nat→List Nat→Nat→Prop
 | nil (x:Nat):Wlk W x [] [] x
 | cons {x t z:Nat} {R V:List Nat}:W.at t x→Wlk W (far W t x) R V z→Wlk W x (t :: R) (x :: V) z
theorem Wlk.app {W:Web} {x y z:Nat} {R R' V V':List Nat} (h:Wlk W x R V y) (h':Wlk W y R' V' z):Wlk W x (R++R') (V++V') z:=by
 induction h with
 | nil => exact h'
 | cons a _ ih => exact .cons a (ih h')
theorem Wlk.len {W:Web} {x z:Nat} {R V:List Nat} (h:Wlk W x R V z):V.length = R.length:=by
 induction h with
 | nil => rfl
 | cons _ _ ih => simp [ih]
inductive Seg (C:Nat→Option (Nat × Nat)):Nat→List (Nat × Nat)→Nat→Prop
 | nil (x:Nat):Seg C x [] x
 | cons {x t y q:Nat} {L:List (Nat × Nat)}:C x = some (t,y)→Seg C y L q→Seg C x ((t,x) :: L) q
structure Tree (W:Web) (C:Nat→Option (Nat × Nat)) (d:Nat→Nat):Prop where
 at':∀ x t y,C x = some (t,y)→W.at t x∧y = far W t x
 dec:∀ x t y,C x = some (t,y)→d y < d x
section
variable {W:Web} {C:Nat→Option (Nat × Nat)} {d:Nat→Nat} {x y q r:Nat} {L M P Q:List (Nat × Nat)}
theorem Seg.app (h:Seg C x L q) (h':Seg C q M r):Seg C x (L++M) r:=by
 induction h with
 | nil => exact h'
 | cons e _ ih => exact .cons e (ih h')
theorem Seg.cut:∀ {L M:List (Nat × Nat)} {x:Nat},Seg C x (L++M) r→∃ q,Seg C x L q∧Seg C q M r
 | [],M,x,h => ⟨x,.nil x,h⟩
 | p :: L,M,x,h => by
  cases h with
  | cons e h =>
   obtain ⟨q,h1,h2⟩:=Seg.cut h
   exact ⟨q,.cons e h1,h2⟩
theorem Seg.same:∀ {L M:List (Nat × Nat)} {x:Nat},C r = none→Seg C x L r→Seg C x M r→L = M
 | [],[],_,_,_,_ => rfl
 | [],_ :: _,x,e,h,h' => by
  cases h
  cases h' with
  | cons e2 _ => rw [e] at e2; cases e2
 | _ :: _,[],x,e,h,h' => by
  cases h'
  cases h with
  | cons e2 _ => rw [e] at e2; cases e2
 | p :: L,p' :: M,x,e,h,h' => by
  cases h with
  | cons e1 h =>
   cases h' with
   | cons e2 h' =>
    rw [e1] at e2
    cases e2
    rw [Seg.same e h h']
theorem Seg.low (T:Tree W C d) (h:Seg C x L q):∀ p,p∈L→d q < d p.2∧d p.2≤d x:=by
 induction h with
 | nil => intro p hp; simp at hp
 | @cons x t y q L e h ih =>
  intro p hp
  have hd:=T.dec _ _ _ e
  have top:d q≤d y:=by
   cases h with
   | nil => exact Nat.le_refl _
   | cons e2 h2 => exact Nat.le_of_lt (ih _ List.mem_cons_self).1
  (rcases List.mem_cons.mp hp with rfl | hp)
  ·exact ⟨by simp only; omega,Nat.le_refl _⟩
  ·have:=ih p hp
   exact ⟨this.1,by omega⟩
theorem Seg.nd (T:Tree W C d) (h:Seg C x L q):(L.map Prod.snd).Nodup:=by
 induction h with
 | nil => simp
 | @cons x t y q L e h ih =>
  rw [List.map_cons,List.nodup_cons]
  refine ⟨fun hm => ?_,ih⟩
  obtain ⟨p,hp,e2⟩:=List.mem_map.mp hm
  have:=(h.low T p hp).2
  have:=T.dec _ _ _ e
  simp only at e2
  rw [e2] at *
  omega
theorem Seg.walk (T:Tree W C d) (h:Seg C x L q):Wlk W x (L.map Prod.fst) (L.map Prod.snd) q:=by
 induction h with
 | nil => exact .nil _
 | cons e h ih =>
  obtain ⟨a,f⟩:=T.at' _ _ _ e
  exact .cons a (f ▸ ih)
theorem Seg.down (hW:W.Ok) (T:Tree W C d) {R V:List Nat} {z:Nat} (h:Seg C x L q) (k:Wlk W x R (x :: V) z):Wlk W q ((L.map Prod.fst).reverse++R) (q :: ((L.map Prod.snd).reverse++V)) z:=by
 induction h generalizing R V with
 | nil => exact k
 | @cons x t y q L e h ih =>
  obtain ⟨a,f⟩:=T.at' _ _ _ e
  have b:=(far_at hW a).1
  have g:far W t (far W t x) = x:=by
   obtain ⟨l,a⟩:=a
   have:=hW.tie l
   unfold far
   rcases a with a | a <;> (repeat' split) <;> omega
  have k2:Wlk W y (t :: R) (y :: (x :: V)) z:=by
   subst f
   refine .cons b ?_
   rw [g]
   exact k
  have:=ih k2
  simpa using this
theorem Seg.alike (hW:W.Ok) (T:Tree W C d) {t x':Nat} {L':List (Nat × Nat)} {a a':Nat} (h:Seg C a (L++(t,x) :: M) r) (h':Seg C a' (L'++(t,y) :: M) r):x = y:=by
 obtain ⟨q,_,h⟩:=Seg.cut h
 obtain ⟨q',_,h'⟩:=Seg.cut h'
 cases h with
 | @cons _ _ y1 _ _ e1 h1 =>
  cases h' with
  | @cons _ _ y2 _ _ e2 h2 =>
   have ee:y1 = y2:=by
    cases h1 with
    | nil =>
     cases h2 with
     | nil => rfl
    | cons _ _ =>
     cases h2 with
     | cons _ _ => rfl
   obtain ⟨a1,f1⟩:=T.at' _ _ _ e1
   obtain ⟨a2,f2⟩:=T.at' _ _ _ e2
   obtain ⟨l,a1⟩:=a1
   obtain ⟨_,a2⟩:=a2
   have:=hW.tie l
   unfold far at f1 f2
   rcases a1 with a1 | a1 <;> rcases a2 with a2 | a2
   ·omega
   ·rw [if_pos a1] at f1
    rw [if_neg (by omega)] at f2
    omega
   ·rw [if_neg (by omega)] at f1
    rw [if_pos a2] at f2
    omega
   ·omega
theorem ring_of (hW:W.Ok) (T:Tree W C d) (e0:C r = none) {one other tie:Nat} (h1:Seg C one (P++M) r) (h2:Seg C other (Q++M) r) (ha:W.at tie other) (hf:far W tie other = one)
  (no:∀ P' Q' p,P = P'++[p]→Q = Q'++[p]→False):∃ V,Wlk W one (P.map Prod.fst++(Q.map Prod.fst).reverse++[tie]) V one∧V.Nodup:=by
 obtain ⟨q,a1,b1⟩:=Seg.cut h1
 obtain ⟨q',a2,b2⟩:=Seg.cut h2
 have qq:q = q':=by
  cases b1 with
  | nil =>
   cases b2 with
   | nil => rfl
  | cons _ _ =>
   cases b2 with
   | cons _ _ => rfl
 subst qq
 have k:Wlk W other [tie] [other] one:=.cons ha (by rw [hf]; exact .nil _)
 refine ⟨_,by rw [List.append_assoc]; exact (a1.walk T).app (a2.down hW T k),?_⟩
 rw [List.append_nil,List.nodup_append]
 refine ⟨a1.nd T,?_,fun x hx y hy => ?_⟩
 ·rw [List.nodup_cons]
  refine ⟨fun hm => ?_,(List.reverse_perm _).nodup_iff.mpr (a2.nd T)⟩
  obtain ⟨p,hp,e⟩:=List.mem_map.mp (List.mem_reverse.mp hm)
  have:=(a2.low T p hp).1
  rw [e] at this
  omega
 ·rintro rfl
  obtain ⟨p,hp,e⟩:=List.mem_map.mp hx
  (rcases List.mem_cons.mp hy with rfl | hy)
  ·have:=(a1.low T p hp).1
   rw [e] at this
   omega
  ·obtain ⟨p',hp',e'⟩:=List.mem_map.mp (List.mem_reverse.mp hy)
   obtain ⟨P1,P2,rfl⟩:=List.append_of_mem hp
   obtain ⟨Q1,Q2,rfl⟩:=List.append_of_mem hp'
   obtain ⟨u,_,c1⟩:=Seg.cut a1
   obtain ⟨u',_,c2⟩:=Seg.cut a2
   have e3:(p :: P2)++M = (p' :: Q2)++M:=by
    have eu:u = u':=by
     cases c1
     cases c2
     simp only at e e'
     omega
    subst eu
    exact Seg.same e0 (c1.app b1) (c2.app b2)
   have e4:p :: P2 = p' :: Q2:=List.append_cancel_right e3
   have lst:p :: P2≠[]:=by simp
   obtain ⟨z,hz⟩:∃ z,∃ l,p :: P2 = l++[z]:=⟨_,_,(List.dropLast_concat_getLast lst).symm⟩
   obtain ⟨l,hz⟩:=hz
   exact no (P1++l) (Q1++l) z (by rw [hz,List.append_assoc]) (by rw [← e4,hz,List.append_assoc])
end
theorem lk_app {α:Type} {l m:List (Nat × α)} {x:Nat} {a:α} (h:l.lookup x = some a):(l++m).lookup x = some a:=by
 rw [List.lookup_append,h]
 rfl
theorem lk_new {α:Type} {l:List (Nat × α)} {x:Nat} {a:α} (h:l.lookup x = none):(l++[(x,a)]).lookup x = some a:=by
 rw [List.lookup_append,h]
 simp
theorem lk_old {α:Type} {l:List (Nat × α)} {x y:Nat} {a:α} (h:y≠x):(l++[(x,a)]).lookup y = l.lookup y:=by
 rw [List.lookup_append]
 have:([(x,a)]:List (Nat × α)).lookup y = none:=by
  rw [List.lookup_cons,beq_eq_false_iff_ne.mpr h]
  rfl
 rw [this]
 cases l.lookup y <;> rfl
theorem lk_none {α:Type} {x:Nat}:∀ {l:List (Nat × α)},l.lookup x = none↔x∉l.map Prod.fst
 | [] => by simp
 | (y,a) :: r => by
  have ih:=lk_none (α:=α) (x:=x) (l:=r)
  rw [List.lookup_cons]
  by_cases c:x = y
  ·subst c; simp
  ·rw [beq_eq_false_iff_ne.mpr c]
   simp only [List.map_cons,List.mem_cons,not_or]
   rw [ih]
   exact ⟨fun h => ⟨c,h⟩,fun h => h.2⟩
theorem lk_some {α:Type} {x:Nat} {l:List (Nat × α)} (h:x∈l.map Prod.fst):∃ a,l.lookup x = some a:=by
 cases c:l.lookup x with
 | some a => exact ⟨a,rfl⟩
 | none => exact absurd h (lk_none.mp c)
structure Gi (W:Web) (S:List (Nat × Nat)) (C:List (Nat × Nat × Nat)):Prop where
 nd:(S.map Prod.fst).Nodup
 low:∀ p,p∈S→p.1 < W.many∧p.2 < 2
 two:∀ x t y,C.lookup x = some (t,y)→∃ s s',S.lookup x = some s∧S.lookup y = some s'∧s + s' = 1
 tr:∃ d,Tree W (fun z => C.lookup z) d
theorem lk_mem {α:Type} {x:Nat} {a:α}:∀ {l:List (Nat × α)},l.lookup x = some a→(x,a)∈l
 | (y,b) :: r,h => by
  rw [List.lookup_cons] at h
  by_cases c:x = y
  ·subst c
   rw [beq_self_eq_true] at h
   cases h
   exact List.mem_cons_self
  ·rw [beq_eq_false_iff_ne.mpr c] at h
   exact List.mem_cons_of_mem _ (lk_mem h)
section
variable {W:Web} {S S0:List (Nat × Nat)} {C:List (Nat × Nat × Nat)} {t u here s:Nat}
theorem Gi.add (g:Gi W S C) (hu:S.lookup u = none) (lu:u < W.many) (at1:W.at t u) (f:here = far W t u) (hs:S.lookup here = some s):Gi W (S++[(u,1 - s)]) (C++[(u,(t,here))]):=by
 have s2:=(g.low _ (lk_mem hs)).2
 have cu:C.lookup u = none:=by
  cases c:C.lookup u with
  | none => rfl
  | some q =>
   obtain ⟨a,b,e,_⟩:=g.two u q.1 q.2 c
   rw [hu] at e
   cases e
 have hne:here≠u:=fun e => by rw [e,hu] at hs; cases hs
 refine ⟨?_,fun p hp => ?_,fun x t' y h => ?_,?_⟩
 ·rw [List.map_append,List.nodup_append]
  refine ⟨g.nd,by simp,fun a ha b hb => ?_⟩
  have:b = u:=by simpa using hb
  rw [this]
  exact fun e => lk_none.mp hu (e ▸ ha)
 ·rcases List.mem_append.mp hp with h | h
  ·exact g.low p h
  ·have:p = (u,1 - s):=by simpa using h
   rw [this]
   exact ⟨lu,by simp only; omega⟩
 ·by_cases c:x = u
  ·subst c
   rw [lk_new cu] at h
   cases h
   exact ⟨1 - s,s,lk_new hu,lk_app hs,by simp only at s2; omega⟩
  ·rw [lk_old c] at h
   obtain ⟨a,b,e1,e2,e3⟩:=g.two x t' y h
   exact ⟨a,b,lk_app e1,lk_app e2,e3⟩
 ·obtain ⟨d,T⟩:=g.tr
  refine ⟨fun z => if z = u then d here + 1 else d z,fun x t' y h => ?_,fun x t' y h => ?_⟩
  ·by_cases c:x = u
   ·subst c
    have h:(C++[(x,(t,here))]).lookup x = some (t',y):=h
    rw [lk_new cu] at h
    cases h
    exact ⟨at1,f⟩
   ·have h:(C++[(u,(t,here))]).lookup x = some (t',y):=h
    rw [lk_old c] at h
    exact T.at' x t' y h
  ·by_cases c:x = u
   ·subst c
    have h:(C++[(x,(t,here))]).lookup x = some (t',y):=h
    rw [lk_new cu] at h
    cases h
    rw [if_neg hne,if_pos rfl]
    omega
   ·have h:(C++[(u,(t,here))]).lookup x = some (t',y):=h
    rw [lk_old c] at h
    have yu:y≠u:=fun e => by
     obtain ⟨a,b,_,e2,_⟩:=g.two x t' y h
     rw [e,hu] at e2
     cases e2
    rw [if_neg c,if_neg yu]
    exact T.dec x t' y h
theorem Gi.root (g:Gi W S C) (hu:S.lookup u = none) (lu:u < W.many):Gi W (S++[(u,0)]) C∧C.lookup u = none:=by
 have cu:C.lookup u = none:=by
  cases c:C.lookup u with
  | none => rfl
  | some q =>
   obtain ⟨a,b,e,_⟩:=g.two u q.1 q.2 c
   rw [hu] at e
   cases e
 refine ⟨⟨?_,fun p hp => ?_,fun x t' y h => ?_,g.tr⟩,cu⟩
 ·rw [List.map_append,List.nodup_append]
  refine ⟨g.nd,by simp,fun a ha b hb => ?_⟩
  have:b = u:=by simpa using hb
  rw [this]
  exact fun e => lk_none.mp hu (e ▸ ha)
 ·rcases List.mem_append.mp hp with h | h
  ·exact g.low p h
  ·have:p = (u,0):=by simpa using h
   rw [this]
   exact ⟨lu,by simp⟩
 ·obtain ⟨a,b,e1,e2,e3⟩:=g.two x t' y h
  exact ⟨a,b,lk_app e1,lk_app e2,e3⟩
theorem Seg.more {x r:Nat} {L:List (Nat × Nat)} {M:List (Nat × Nat × Nat)} (h:Seg (fun z => C.lookup z) x L r):Seg (fun z => (C++M).lookup z) x L r:=by
 induction h with
 | nil => exact .nil _
 | cons e _ ih => exact .cons (lk_app e) ih
def Done (W:Web) (S:List (Nat × Nat)) (x:Nat):Prop:=∀ t,W.at t x→∃ s s',S.lookup x = some s∧S.lookup (far W t x) = some s'∧s≠s'
theorem Done.more {x:Nat} {M:List (Nat × Nat)} (h:Done W S x):Done W (S++M) x:=fun t a => by
 obtain ⟨s,s',e1,e2,n⟩:=h t a
 exact ⟨s,s',lk_app e1,lk_app e2,n⟩
theorem Seg.par (g:Gi W S C) {x r:Nat} {L:List (Nat × Nat)} (h:Seg (fun z => C.lookup z) x L r):∀ {a b},S.lookup x = some a→S.lookup r = some b→(a + L.length) % 2 = b % 2:=by
 induction h with
 | nil =>
  intro a b e1 e2
  rw [e1] at e2
  cases e2
  simp
 | @cons x t y q L e h ih =>
  intro a b e1 e2
  obtain ⟨s,s',f1,f2,f3⟩:=g.two x t y e
  rw [e1] at f1
  cases f1
  have:=ih f2 e2
  simp only [List.length_cons]
  omega
theorem Seg.many (g:Gi W S C) (hW:W.Ok) {x r:Nat} {L:List (Nat × Nat)} (h:Seg (fun z => C.lookup z) x L r):L.length≤S.length:=by
 obtain ⟨d,T⟩:=g.tr
 have nd:=h.nd T
 have sub:∀ {x r:Nat} {L:List (Nat × Nat)},Seg (fun z => C.lookup z) x L r→∀ z,z∈L.map Prod.snd→z∈S.map Prod.fst:=fun {x r L} h => by
  induction h with
  | nil => intro z hz; simp at hz
  | @cons x t y q L e h ih =>
   intro z hz
   (rcases List.mem_cons.mp hz with rfl | hz)
   ·obtain ⟨s,s',f1,_⟩:=g.two _ t y e
    exact List.mem_map.mpr ⟨(_,s),lk_mem f1,rfl⟩
   ·exact ih z hz
 have:=nodup_le nd (sub h)
 simpa using this
end
section
variable {α:Type} (f:α→T)
abbrev dk (l:List (Nat × α)):List (Key × T):=l.map fun p => (.inl (p.1:Int),f p.2)
def dkT (l:List (Nat × α)):T:=.dK (dk f l)
theorem getK_dk (u:Nat):∀ l:List (Nat × α),getK (dk f l) (.inl (u:Int)) = (l.lookup u).map f
 | [] => by simp [getK]
 | (x,a) :: r => by
  have ih:=getK_dk u r
  rw [dk,List.map_cons,getK_cons]
  rw [dk] at ih
  rw [ih,List.lookup_cons]
  by_cases c:x = u
  ·subst c; simp
  ·have c':¬ (Sum.inl (x:Int):Key) = .inl (u:Int):=fun e => c (by have:=Sum.inl.inj e; omega)
   have c2:(u == x) = false:=beq_eq_false_iff_ne.mpr fun e => c e.symm
   simp [c',c2]
theorem kIn_dk (neg:Bool) (u:Nat) (l:List (Nat × α)):kIn neg (iT (u:Int)) (dkT f l) = some (bT (if neg then !(l.lookup u).isSome else (l.lookup u).isSome)):=by
 have g:=getK_dk f u l
 have k:kInK neg (iT (u:Int)) (dkT f l) = some (bT (if neg then !(l.lookup u).isSome else (l.lookup u).isSome)):=by
  unfold dkT
  simp [kInK,g]
 unfold kIn
 have k1:kInD neg (iT (u:Int)) (dkT f l) = none:=by simp [kInD,dkT]
 have k2:kInF neg (iT (u:Int)) (dkT f l) = none:=by simp [kInF,dkT,show seqOf (.dK (dk f l)) = none from rfl]
 simp [k1,k2,k]
theorem putT_dk {l:List (Nat × α)} {u:Nat} (a:α) (h:l.lookup u = none):putT (dk f l) (.inl (u:Int)) (f a) = dk f (l++[(u,a)]):=by
 unfold putT
 rw [getK_none_any,getK_dk]
 simp [h]
theorem kIxA_dk {l:List (Nat × α)} {u:Nat} {a:α} (h:l.lookup u = some a):kIxA (dkT f l) (iT (u:Int)) = some (f a):=by
 have g:=getK_dk f u l
 rw [h] at g
 simp [dkT,g]
end
inductive Rea (W:Web):Nat→Nat→Prop
 | refl (x:Nat):Rea W x x
 | head {x t z:Nat}:W.at t x→Rea W (far W t x) z→Rea W x z
theorem Rea.trans {W:Web} {x y z:Nat} (h:Rea W x y) (h':Rea W y z):Rea W x z:=by
 induction h with
 | refl => exact h'
 | head a _ ih => exact .head a (ih h')
theorem far_back {W:Web} (hW:W.Ok) {t x:Nat} (a:W.at t x):far W t (far W t x) = x:=by
 obtain ⟨f1,f2,_⟩:=far_at hW a
 rcases far_ends f1 a with e | e
 ·exact absurd e.symm f2
 ·exact e.symm
theorem Rea.symm {W:Web} (hW:W.Ok) {x y:Nat} (h:Rea W x y):Rea W y x:=by
 induction h with
 | refl => exact .refl _
 | @head x t z a _ ih =>
  refine ih.trans (.head (far_at hW a).1 ?_)
  rw [far_back hW a]
  exact .refl _
theorem Rea.low {W:Web} (hW:W.Ok) {x y:Nat} (h:Rea W x y) (hx:x < W.many):y < W.many:=by
 induction h with
 | refl => exact hx
 | head a _ ih => exact ih (far_at hW a).2.2
theorem Rea.shut {W:Web} {P:Nat→Prop} (cl:∀ x,P x→∀ t,W.at t x→P (far W t x)) {x y:Nat} (h:Rea W x y) (hx:P x):P y:=by
 induction h with
 | refl => exact hx
 | head a _ ih => exact ih (cl _ hx _ a)
theorem Rea.tie {W:Web} {t:Nat} (ht:t < W.ties.length):Rea W (W.tie t).1 (W.tie t).2:=by
 refine .head (t:=t) ⟨ht,.inl rfl⟩ ?_
 have:far W t (W.tie t).1 = (W.tie t).2:=by simp [far]
 rw [this]
 exact .refl _
def mkOf (l:List Nat) (x:Nat):Nat:=l.getD x 0
theorem mkOf_get {l:List Nat} {x:Nat} (h:x < l.length):l[x]? = some (mkOf l x):=by
 unfold mkOf
 rw [List.getD_eq_getElem?_getD,List.getElem?_eq_getElem h]
 rfl
def unite (l:List Nat) (u v:Nat):List Nat:=l.map fun m => if m = max (mkOf l u) (mkOf l v) then min (mkOf l u) (mkOf l v) else m
theorem mkOf_unite {l:List Nat} {x:Nat} (u v:Nat) (h:x < l.length):mkOf (unite l u v) x = if mkOf l x = max (mkOf l u) (mkOf l v) then min (mkOf l u) (mkOf l v) else mkOf l x:=by
 have h2:=mkOf_get (l:=unite l u v) (x:=x) (by simpa [unite] using h)
 rw [unite,List.getElem?_map,mkOf_get h,Option.map_some] at h2
 exact (Option.some.inj h2).symm
structure MU (W:Web) (n:Nat) (l:List Nat):Prop where
 len:l.length = W.many
 le:∀ x,x < W.many→mkOf l x≤x
 rea:∀ x,x < W.many→Rea W x (mkOf l x)
 same:∀ t,t < n→mkOf l (W.tie t).1 = mkOf l (W.tie t).2
theorem MU.zero (W:Web):MU W 0 (List.range W.many):=by
 have e:∀ x,x < W.many→mkOf (List.range W.many) x = x:=fun x hx => by
  have:=mkOf_get (l:=List.range W.many) (x:=x) (by simpa using hx)
  rw [List.getElem?_range hx] at this
  (exact (Option.some.inj this).symm)
 exact ⟨by simp,fun x hx => by rw [e x hx]; exact Nat.le_refl _,fun x hx => by rw [e x hx]; exact .refl _,fun t ht => by omega⟩
theorem MU.step {W:Web} (hW:W.Ok) {n:Nat} {l:List Nat} (h:MU W n l) (hn:n < W.ties.length):MU W (n + 1) (unite l (W.tie n).1 (W.tie n).2):=by
 have tn:=hW.tie hn
 have at':∀ x,x < W.many→mkOf (unite l (W.tie n).1 (W.tie n).2) x = if mkOf l x = max (mkOf l (W.tie n).1) (mkOf l (W.tie n).2) then min (mkOf l (W.tie n).1) (mkOf l (W.tie n).2) else mkOf l x:=fun x hx => mkOf_unite _ _ (by rw [h.len]; exact hx)
 have r1:=h.rea (W.tie n).1 (by omega)
 have r2:=h.rea (W.tie n).2 (by omega)
 have r12:=Rea.tie (W:=W) hn
 have j:Rea W (mkOf l (W.tie n).1) (mkOf l (W.tie n).2):=(r1.symm hW).trans (r12.trans r2)
 refine ⟨by simp [unite,h.len],fun x hx => ?_,fun x hx => ?_,fun t ht => ?_⟩
 ·rw [at' x hx]
  have:=h.le x hx
  split <;> omega
 ·rw [at' x hx]
  have r:=h.rea x hx
  split
  ·rename_i c
   refine r.trans ?_
   rw [c]
   rcases Nat.le_total (mkOf l (W.tie n).1) (mkOf l (W.tie n).2) with q | q
   ·rw [Nat.max_eq_right q,Nat.min_eq_left q]
    exact j.symm hW
   ·rw [Nat.max_eq_left q,Nat.min_eq_right q]
    exact j
  ·exact r
 ·have lt:t < W.ties.length:=by omega
  have tt:=hW.tie lt
  rw [at' _ (by omega),at' _ tt.2]
  by_cases c:t < n
  ·rw [h.same t c]
  ·have:t = n:=by omega
   subst this
   split <;> split <;> omega
structure Marks (W:Web) (l:List Nat):Prop where
 len:l.length = W.many
 le:∀ x,x < W.many→mkOf l x≤x
 iff:∀ x y,x < W.many→y < W.many→(Rea W x y↔mkOf l x = mkOf l y)
theorem MU.marks {W:Web} (hW:W.Ok) {l:List Nat} (h:MU W W.ties.length l):Marks W l:=by
 refine ⟨h.len,h.le,fun x y hx hy => ⟨fun r => ?_,fun e => ?_⟩⟩
 ·have:=Rea.shut (P:=fun z => mkOf l x = mkOf l z) (fun z hz t a => ?_) r rfl
  ·exact this
  ·rw [hz]
   have s:=h.same t a.1
   unfold far
   rcases a.2 with e | e
   ·rw [if_pos e,← e]
    exact s
   ·by_cases c:(W.tie t).1 = z
    ·rw [if_pos c,← c]
     exact s
    ·rw [if_neg c,← e]
     exact s.symm
 ·have r1:=h.rea x hx
  have r2:=h.rea y hy
  rw [e] at r1
  exact r1.trans (r2.symm hW)
theorem Marks.root {W:Web} {l:List Nat} (h:Marks W l) (rea:∀ x,x < W.many→Rea W x (mkOf l x)) {x:Nat} (hx:x < W.many):mkOf l (mkOf l x) = mkOf l x:=by
 have:=(h.iff x (mkOf l x) hx (by have:=h.le x hx; omega)).mp (rea x hx)
 exact this.symm
inductive Ro (W:Web) (o:Nat):Nat→Nat→Prop
 | refl (x:Nat):Ro W o x x
 | head {x t z:Nat}:W.at t x→x≠o→far W t x≠o→Ro W o (far W t x) z→Ro W o x z
section
variable {W:Web} {o:Nat}
theorem Ro.trans {x y z:Nat} (h:Ro W o x y) (h':Ro W o y z):Ro W o x z:=by
 induction h with
 | refl => exact h'
 | head a n m _ ih => exact .head a n m (ih h')
theorem Ro.symm (hW:W.Ok) {x y:Nat} (h:Ro W o x y):Ro W o y x:=by
 induction h with
 | refl => exact .refl _
 | @head x t z a n m _ ih =>
  refine ih.trans (.head (far_at hW a).1 m ?_ ?_)
  ·rw [far_back hW a]
   exact n
  ·rw [far_back hW a]
   exact .refl _
theorem Ro.low (hW:W.Ok) {x y:Nat} (h:Ro W o x y) (hx:x < W.many):y < W.many:=by
 induction h with
 | refl => exact hx
 | head a _ _ _ ih => exact ih (far_at hW a).2.2
theorem Ro.off {x y:Nat} (h:Ro W o x y) (hx:x≠o):y≠o:=by
 induction h with
 | refl => exact hx
 | head _ _ m _ ih => exact ih m
theorem Ro.shut {P:Nat→Prop} (cl:∀ x,P x→∀ t,W.at t x→x≠o→far W t x≠o→P (far W t x)) {x y:Nat} (h:Ro W o x y) (hx:P x):P y:=by
 induction h with
 | refl => exact hx
 | head a n m _ ih => exact ih (cl _ hx _ a n m)
theorem Ro.rea {x y:Nat} (h:Ro W o x y):Rea W x y:=by
 induction h with
 | refl => exact .refl _
 | head a _ _ _ ih => exact .head a ih
theorem Rea.ro (hW:W.Ok) (ho:W.many≤o) {x y:Nat} (h:Rea W x y):Ro W o x y:=by
 induction h with
 | refl => exact .refl _
 | @head x t z a _ ih =>
  have f:=(far_at hW a).2.2
  have b:=(far_at hW (far_at hW a).1).2.2
  rw [far_back hW a] at b
  exact .head a (by omega) (by omega) ih
theorem far_fst (t:Nat):far W t (W.tie t).1 = (W.tie t).2:=by simp [far]
theorem Ro.tie {t:Nat} (ht:t < W.ties.length) (n1:(W.tie t).1≠o) (n2:(W.tie t).2≠o):Ro W o (W.tie t).1 (W.tie t).2:=by
 refine .head (t:=t) ⟨ht,.inl rfl⟩ n1 ?_ ?_
 ·rw [far_fst]; exact n2
 ·rw [far_fst]; exact .refl _
def relab (f:Nat→Nat) (u v:Nat):Nat→Nat:=fun x => if f x = f v then f u else f x
structure LU (W:Web) (o n:Nat) (f:Nat→Nat):Prop where
 rea:∀ x,x < W.many→x≠o→Ro W o x (f x)
 same:∀ t,t < n→(W.tie t).1≠o→(W.tie t).2≠o→f (W.tie t).1 = f (W.tie t).2
theorem LU.zero:LU W o 0 (fun x => x):=⟨fun x _ _ => .refl x,fun t ht => by omega⟩
theorem LU.skip {n:Nat} {f:Nat→Nat} (h:LU W o n f) (s:(W.tie n).1 = o∨(W.tie n).2 = o∨f (W.tie n).1 = f (W.tie n).2):LU W o (n + 1) f:=by
 refine ⟨h.rea,fun t ht n1 n2 => ?_⟩
 by_cases c:t < n
 ·exact h.same t c n1 n2
 ·have:t = n:=by omega
  subst this
  rcases s with s | s | s
  ·exact absurd s n1
  ·exact absurd s n2
  ·exact s
theorem LU.step (hW:W.Ok) {n:Nat} {f:Nat→Nat} (h:LU W o n f) (hn:n < W.ties.length) (n1:(W.tie n).1≠o) (n2:(W.tie n).2≠o):LU W o (n + 1) (relab f (W.tie n).1 (W.tie n).2):=by
 have tn:=hW.tie hn
 refine ⟨fun x hx nx => ?_,fun t ht m1 m2 => ?_⟩
 ·unfold relab
  split
  ·rename_i c
   have r:=h.rea x hx nx
   rw [c] at r
   exact r.trans (((h.rea _ tn.2 n2).symm hW).trans (((Ro.tie hn n1 n2).symm hW).trans (h.rea _ (by omega) n1)))
  ·exact h.rea x hx nx
 ·by_cases c:t < n
  ·have:=h.same t c m1 m2
   simp only [relab,this]
  ·have:t = n:=by omega
   subst this
   simp only [relab]
   split <;> simp
def sink (o:Nat) (f:Nat→Nat) (p:Nat × Nat):Nat→Nat:=if p.1 = o∨p.2 = o then f else fun x => if x = p.1∨x = p.2 then min (f p.1) (f p.2) else f x
inductive Vp (W:Web) (o z:Nat):List Nat→Prop
 | one:Vp W o z [z]
 | cons {x t:Nat} {l:List Nat}:W.at t x→x≠o→far W t x≠o→Vp W o z (far W t x :: l)→Vp W o z (x :: far W t x :: l)
theorem Vp.part {z:Nat} {l:List Nat} (h:Vp W o z l):∀ x,x∈l→∃ l',Vp W o z (x :: l')∧(x :: l').Sublist l:=by
 induction h with
 | one =>
  intro x hx
  have:x = z:=by simpa using hx
  subst this
  exact ⟨[],.one,List.Sublist.refl _⟩
 | @cons y t l a n m v ih =>
  intro x hx
  (rcases List.mem_cons.mp hx with e | hx)
  ·subst e
   exact ⟨_,.cons a n m v,List.Sublist.refl _⟩
  ·obtain ⟨l',v',s⟩:=ih x hx
   exact ⟨l',v',s.cons _⟩
end
def wt:Option Nat→Int
 | none => 0
 | some h => if h = 0 then 1 else -1
theorem sum_one {l:List Nat} (nd:l.Nodup) {f g:Nat→Int} {t:Nat} (h:∀ x,x≠t→g x = f x):(l.map g).sum = (l.map f).sum + if t∈l then g t - f t else 0:=by
 induction l with
 | nil => simp
 | cons x l ih =>
  rw [List.nodup_cons] at nd
  have:=ih nd.2
  simp only [List.map_cons,List.sum_cons,List.mem_cons]
  by_cases e:t = x
  ·subst e
   rw [if_neg nd.1] at this
   rw [if_pos (.inl rfl)]
   omega
  ·have e2:=h x (fun z => e z.symm)
   by_cases m:t∈l
   ·rw [if_pos m] at this
    rw [if_pos (.inr m)]
    omega
   ·rw [if_neg m] at this
    rw [if_neg (by rintro (z | z); exact e z; exact m z)]
    omega
theorem nd_tiesAt (W:Web) (p:Nat):(tiesAt W p).Nodup:=List.nodup_range.filter _
def balL (row:List (Option Nat)) (l:List Nat):Int:=(l.map fun t => wt (hAt row t)).sum
def bal (W:Web) (row:List (Option Nat)) (p:Nat):Int:=balL row (tiesAt W p)
theorem hAt_put {r:List (Option Nat)} {t:Nat} (o:Option Nat) (ht:t < r.length) (x:Nat):hAt (r.set t o) x = if x = t then o else hAt r x:=by
 unfold hAt
 simp only [List.getD_eq_getElem?_getD,List.getElem?_set]
 by_cases e:t = x
 ·subst e
  simp [ht]
 ·rw [if_neg e,if_neg fun z => e z.symm]
theorem bal_set {W:Web} {row:List (Option Nat)} {t h p:Nat} (hr:row.length = W.ties.length) (ht:t < W.ties.length) (e:hAt row t = none):bal W (row.set t (some h)) p = bal W row p + if (W.tie t).1 = p∨(W.tie t).2 = p then wt (some h) else 0:=by
 unfold bal balL
 rw [sum_one (nd_tiesAt W p) (f:=fun x => wt (hAt row x)) (t:=t) fun x hx => by
  show wt (hAt (row.set t (some h)) x) = _
  rw [hAt_put _ (by omega),if_neg hx]]
 have e1:wt (hAt (row.set t (some h)) t) = wt (some h):=by rw [hAt_put _ (by omega),if_pos rfl]
 rw [e1,e]
 have e2:(t∈tiesAt W p)↔((W.tie t).1 = p∨(W.tie t).2 = p):=by rw [mem_tiesAt]; exact ⟨fun z => z.2,fun z => ⟨ht,z⟩⟩
 simp only [e2,wt,Int.sub_zero]
theorem balL_par (row:List (Option Nat)):∀ l:List Nat,(∀ t,t∈l→hAt row t≠none)→balL row l % 2 = (l.length:Int) % 2
 | [],_ => rfl
 | t :: l,h => by
  have ih:=balL_par row l fun x hx => h x (List.mem_cons_of_mem _ hx)
  have h1:=h t List.mem_cons_self
  have e:balL row (t :: l) = wt (hAt row t) + balL row l:=by simp [balL]
  rw [e,List.length_cons]
  cases c:hAt row t with
  | none => exact absurd c h1
  | some k =>
   have:wt (some k) = 1∨wt (some k) = -1:=by
    unfold wt
    simp only
    split
    ·exact .inl rfl
    ·exact .inr rfl
   omega
structure Tn (W:Web) (c:Nat→Nat) (k:Nat) (row:List (Option Nat)) (left:List (List Nat)) (s here turn:Nat):Prop where
 lenr:row.length = W.ties.length
 lenl:left.length = W.many
 two:∀ t h,hAt row t = some h→h < 2
 lf:∀ p t,t∈left.getD p []→W.at t p
 un:∀ p t,W.at t p→hAt row t = none→t∈left.getD p []
 dn:∀ p,p < k→∀ t,W.at t p→hAt row t≠none
 lo:here < W.many
 tu:turn = 0∧c here = c s∨turn = 1∧c here≠c s
 bl:∀ p,p < W.many→bal W row p = if here = s then 0 else if p = s then 1 else if p = here then (if turn = 0 then -1 else 1) else 0
section
variable {W:Web} {c:Nat→Nat} {k s here turn t:Nat} {row:List (Option Nat)} {left:List (List Nat)} {l:List Nat}
theorem getD_setL {p x:Nat} (l:List Nat) (hp:p < left.length):(left.set p l).getD x [] = if x = p then l else left.getD x []:=by
 simp only [List.getD_eq_getElem?_getD,List.getElem?_set]
 by_cases e:p = x
 ·subst e
  simp [hp]
 ·rw [if_neg e,if_neg fun z => e z.symm]
theorem Tn.skip (T:Tn W c k row left s here turn) (e:left.getD here [] = l++[t]) (u:hAt row t≠none):Tn W c k row (left.set here l) s here turn:=by
 have hl:here < left.length:=by rw [T.lenl]; exact T.lo
 refine ⟨T.lenr,by rw [List.length_set]; exact T.lenl,T.two,fun p x h => ?_,fun p x a h => ?_,T.dn,T.lo,T.tu,T.bl⟩
 ·rw [getD_setL _ hl] at h
  split at h
  ·rename_i z
   subst z
   exact T.lf _ x (by rw [e]; exact List.mem_append_left _ h)
  ·exact T.lf p x h
 ·have:=T.un p x a h
  rw [getD_setL _ hl]
  split
  ·rename_i z
   subst z
   rw [e] at this
   rcases List.mem_append.mp this with z | z
   ·exact z
   ·have:x = t:=by simpa using z
    subst this
    exact absurd h u
  ·exact this
theorem Tn.go (hW:W.Ok) (h2:∀ p,p < W.many→c p < 2) (hc:∀ t,t < W.ties.length→c (W.tie t).1≠c (W.tie t).2) (hs:s < W.many) (T:Tn W c k row left s here turn) (e:left.getD here [] = l++[t]) (u:hAt row t = none) :
  Tn W c k (row.set t (some turn)) (left.set here l) s (far W t here) (1 - turn):=by
 have hl:here < left.length:=by rw [T.lenl]; exact T.lo
 have a:W.at t here:=T.lf here t (by rw [e]; simp)
 obtain ⟨f1,f2,f3⟩:=far_at hW a
 have tl:t < row.length:=by rw [T.lenr]; exact a.1
 have cf:c here≠c (far W t here):=by
  have h1:=hc t a.1
  have tt:=hW.tie a.1
  unfold far
  rcases a.2 with z | z
  ·rw [if_pos z,← z]; exact h1
  ·rw [if_neg (by omega),← z]; exact h1.symm
 have c1:=h2 here T.lo
 have c2:=h2 _ f3
 have c3:=h2 s hs
 have ends:∀ p,((W.tie t).1 = p∨(W.tie t).2 = p)↔(p = here∨p = far W t here):=fun p => ⟨fun z => by
  exact far_ends a ⟨a.1,z⟩,fun z => by
  rcases z with rfl | rfl
  ·exact a.2
  ·exact f1.2⟩
 refine ⟨by rw [List.length_set]; exact T.lenr,by rw [List.length_set]; exact T.lenl,fun x h q => ?_,fun p x h => ?_,fun p x b q => ?_,fun p hp x b => ?_,f3,?_,fun p hp => ?_⟩
 ·rw [hAt_put _ tl] at q
  split at q
  ·have:=T.tu
   cases q
   omega
  ·exact T.two x h q
 ·rw [getD_setL _ hl] at h
  split at h
  ·rename_i z
   subst z
   exact T.lf _ x (by rw [e]; exact List.mem_append_left _ h)
  ·exact T.lf p x h
 ·rw [hAt_put _ tl] at q
  split at q
  ·cases q
  ·rename_i ne
   have:=T.un p x b q
   rw [getD_setL _ hl]
   split
   ·rename_i z
    subst z
    rw [e] at this
    rcases List.mem_append.mp this with z | z
    ·exact z
    ·exact absurd (by simpa using z) ne
   ·exact this
 ·rw [hAt_put _ tl]
  split
  ·exact fun z => nomatch z
  ·exact T.dn p hp x b
 ·rcases T.tu with ⟨z,y⟩ | ⟨z,y⟩
  ·right
   exact ⟨by omega,by omega⟩
  ·left
   exact ⟨by omega,by omega⟩
 ·rw [bal_set T.lenr a.1 u,T.bl p hp]
  simp only [ends p]
  generalize hf:far W t here = f at *
  have w0:wt (some 0) = 1:=rfl
  have w1:wt (some 1) = -1:=rfl
  rcases T.tu with ⟨rfl,y⟩ | ⟨rfl,y⟩
  ·have fs:f≠s:=fun z => by subst z; omega
   rw [w0]
   repeat' split
   all_goals omega
  ·have hs:here≠s:=fun z => by subst z; omega
   rw [w1]
   repeat' split
   all_goals omega
theorem Tn.fin (ev:∀ p,p < W.many→(tiesAt W p).length % 2 = 0) (T:Tn W c k row left s here turn) (e:left.getD here [] = []):here = s:=by
 have all:∀ t,t∈tiesAt W here→hAt row t≠none:=fun t h z => by
  have:=T.un here t (mem_tiesAt.mp h) z
  rw [e] at this
  cases this
 have p:=balL_par row _ all
 have b:=T.bl here T.lo
 have d:=ev here T.lo
 unfold bal at b
 by_cases z:here = s
 ·exact z
 ·rw [if_neg z,if_neg z,if_pos rfl] at b
  split at b <;> omega
theorem Tn.next (ev:∀ p,p < W.many→(tiesAt W p).length % 2 = 0) (T:Tn W c s row left s here turn) (e:left.getD here [] = []) (hn:s + 1 < W.many):Tn W c (s + 1) row left (s + 1) (s + 1) 0:=by
 have z:=T.fin ev e
 subst z
 refine ⟨T.lenr,T.lenl,T.two,T.lf,T.un,fun p hp t a q => ?_,hn,.inl ⟨rfl,rfl⟩,fun p hp => ?_⟩
 ·by_cases z:p = here
  ·subst z
   have:=T.un p t a q
   rw [e] at this
   cases this
  ·exact T.dn p (by omega) t a q
 ·have:=T.bl p hp
  rw [if_pos rfl] at this ⊢
  exact this
theorem Tn.last (hW:W.Ok) (ev:∀ p,p < W.many→(tiesAt W p).length % 2 = 0) (T:Tn W c s row left s here turn) (e:left.getD here [] = []) (hn:s + 1 = W.many):row.length = W.ties.length∧(∀ t,t < W.ties.length→∃ h,h < 2∧hAt row t = some h)∧∀ p,p < W.many→bal W row p = 0:=by
 have z:=T.fin ev e
 subst z
 refine ⟨T.lenr,fun t ht => ?_,fun p hp => ?_⟩
 ·have tt:=hW.tie ht
  cases q:hAt row t with
  | some h => exact ⟨h,T.two t h q,rfl⟩
  | none =>
   by_cases z:(W.tie t).1 = here
   ·have:=T.un here t ⟨ht,.inl z⟩ q
    rw [e] at this
    cases this
   ·exact absurd q (T.dn (W.tie t).1 (by omega) t ⟨ht,.inl rfl⟩)
 ·have:=T.bl p hp
  rwa [if_pos rfl] at this
end
theorem tiesAt_len (W:Web) (p:Nat):(tiesAt W p).length = W.ties.countP fun q => q.1 == p||q.2 == p:=by
 unfold tiesAt
 rw [← List.countP_eq_length_filter]
 have e:W.ties = (List.range W.ties.length).map W.tie:=by
  (refine List.ext_getElem (by simp) fun i h1 h2 => ?_)
  have:=tie_at W h1
  rw [List.getElem?_eq_getElem h1] at this
  simpa using this
 conv => rhs; rw [e]
 rw [List.countP_map]
 rfl
section
variable {W:Web} {c:Nat→Nat}
theorem count_one' {l:List Nat} (nd:l.Nodup) (x:Nat):(l.countP fun p => p == x) = if x∈l then 1 else 0:=by
 induction l with
 | nil => rfl
 | cons y l ih =>
  rw [List.nodup_cons] at nd
  rw [List.countP_cons,ih nd.2]
  by_cases e:y = x
  ·subst e
   simp [nd.1]
  ·have:x≠y:=fun z => e z.symm
   simp [e,this]
end
theorem hAt_len {M:List (Option Nat)} {p t:Nat} (h:hAt M p = some t):p < M.length:=by
 unfold hAt at h
 rw [List.getD_eq_getElem?_getD] at h
 rcases Nat.lt_or_ge p M.length with z | z
 ·exact z
 ·rw [List.getElem?_eq_none z] at h
  cases h
structure MOk (W:Web) (M:List (Option Nat)):Prop where
 len:M.length = W.many
 ok:∀ p t,hAt M p = some t→W.at t p∧hAt M (far W t p) = some t
theorem far_far {W:Web} (hW:W.Ok) {t x:Nat} (a:W.at t x):far W t (far W t x) = x:=by
 obtain ⟨f1,f2,f3⟩:=far_at hW a
 rcases far_ends f1 a with z | z
 ·exact absurd z.symm f2
 ·exact z.symm
section
variable {W:Web} {M N:List (Option Nat)}
theorem MOk.congr (h:MOk W M) (l:N.length = M.length) (e:∀ x,hAt N x = hAt M x):MOk W N:=⟨l.trans h.len,fun p t q => by
 rw [e] at q ⊢
 exact h.ok p t q⟩
theorem MOk.add (hW:W.Ok) (h:MOk W M) {a b t:Nat} (at1:W.at t b) (f:far W t b = a) (ea:hAt M a = none) (eb:hAt M b = none):MOk W ((M.set b (some t)).set a (some t)):=by
 obtain ⟨f1,f2,f3⟩:=far_at hW at1
 rw [f] at f1 f2 f3
 have lb:b < M.length:=by
  rw [h.len]
  have tt:=hW.tie at1.1
  have:=at1.2
  omega
 have la:a < (M.set b (some t)).length:=by rw [List.length_set,h.len]; exact f3
 have gt:∀ x,hAt ((M.set b (some t)).set a (some t)) x = if x = a∨x = b then some t else hAt M x:=fun x => by
  rw [hAt_put _ la,hAt_put _ lb]
  by_cases z:x = a
  ·rw [if_pos z,if_pos (.inl z)]
  ·rw [if_neg z]
   by_cases z2:x = b
   ·rw [if_pos z2,if_pos (.inr z2)]
   ·rw [if_neg z2,if_neg (by omega)]
 refine ⟨by simp [h.len],fun p u q => ?_⟩
 rw [gt] at q
 split at q
 ·rename_i z
  cases q
  rcases z with rfl | rfl
  ·refine ⟨f1,?_⟩
   rw [gt,if_pos]
   right
   rw [← f]
   exact far_far hW at1
  ·refine ⟨at1,?_⟩
   rw [gt,if_pos]
   exact .inl f
 ·rename_i z
  obtain ⟨q1,q2⟩:=h.ok p u q
  refine ⟨q1,?_⟩
  rw [gt,if_neg]
  ·exact q2
  ·rintro (z2 | z2)
   ·rw [z2,ea] at q2
    cases q2
   ·rw [z2,eb] at q2
    cases q2
theorem MOk.cut (hW:W.Ok) (h:MOk W M) {a b t:Nat} (e:hAt M b = some t) (f:far W t b = a):MOk W ((M.set b none).set a none):=by
 obtain ⟨at1,e2⟩:=h.ok b t e
 obtain ⟨f1,f2,f3⟩:=far_at hW at1
 rw [f] at f1 f2 f3 e2
 have lb:b < M.length:=hAt_len e
 have la:a < (M.set b none).length:=by rw [List.length_set,h.len]; exact f3
 have gt:∀ x,hAt ((M.set b none).set a none) x = if x = a∨x = b then none else hAt M x:=fun x => by
  rw [hAt_put _ la,hAt_put _ lb]
  by_cases z:x = a
  ·rw [if_pos z,if_pos (.inl z)]
  ·rw [if_neg z]
   by_cases z2:x = b
   ·rw [if_pos z2,if_pos (.inr z2)]
   ·rw [if_neg z2,if_neg (by omega)]
 refine ⟨by simp [h.len],fun p u q => ?_⟩
 rw [gt] at q
 split at q
 ·cases q
 ·rename_i z
  obtain ⟨q1,q2⟩:=h.ok p u q
  refine ⟨q1,?_⟩
  rw [gt,if_neg]
  ·exact q2
  ·rintro (z2 | z2)
   ·rw [z2,e2] at q2
    cases q2
    have:p = b:=by
     rw [← far_far hW q1,z2,← f]
     exact far_far hW at1
    exact z (.inr this)
   ·rw [z2,e] at q2
    cases q2
    have:p = a:=by
     rw [← far_far hW q1,z2,f]
    exact z (.inl this)
end
abbrev CE:=Option (Option Nat × Nat)
def ixC (C:List (Nat × CE)) (x:Nat):Nat:=C.findIdx fun e => e.1 == x
def EvK (C:List (Nat × CE)) (x:Nat):Prop:=C.lookup x = some none∨∃ b,C.lookup x = some (some (none,b))
theorem ixC_lt {C:List (Nat × CE)} {x:Nat} {e:CE} (h:C.lookup x = some e):ixC C x < C.length:=by
 have:=lk_mem h
 exact List.findIdx_lt_length_of_exists ⟨(x,e),this,by simp⟩
theorem ixC_app {C r:List (Nat × CE)} {x:Nat} {e:CE} (h:C.lookup x = some e):ixC (C++r) x = ixC C x:=by
 have:=ixC_lt h
 unfold ixC at this ⊢
 rw [List.findIdx_append,if_pos this]
theorem ixC_new {C:List (Nat × CE)} {x:Nat} (h:C.lookup x = none) (e:CE):ixC (C++[(x,e)]) x = C.length:=by
 have:C.findIdx (fun e => e.1 == x) = C.length:=by
  rw [List.findIdx_eq_length]
  intro q hq
  have:=lk_none.mp h
  simp only [beq_eq_false_iff_ne]
  exact fun z => this (z ▸ List.mem_map.mpr ⟨q,hq,rfl⟩)
 unfold ixC
 rw [List.findIdx_append,if_neg (by omega)]
 simp
structure Sr (W:Web) (c:Nat→Nat) (M:List (Option Nat)) (root:Nat) (C:List (Nat × CE)):Prop where
 nd:(C.map Prod.fst).Nodup
 low:∀ x e,C.lookup x = some e→x < W.many
 rt:C.lookup root = some none
 rn:∀ x,C.lookup x = some none→x = root
 od:∀ x t h,C.lookup x = some (some (some t,h))→W.at t x∧far W t x = h∧EvK C h∧ixC C h < ixC C x
 ev:∀ x b,C.lookup x = some (some (none,b))→(∃ t,hAt M b = some t∧far W t b = x)∧(∃ t h,C.lookup b = some (some (some t,h)))∧ixC C b < ixC C x
 bare:hAt M root = none
 so:∀ x t h,C.lookup x = some (some (some t,h))→c x≠c root
 se:∀ x,EvK C x→c x = c root
structure Sr1 (W:Web) (c:Nat→Nat) (M:List (Option Nat)) (root:Nat) (lt:List Nat) (C:List (Nat × CE)):Prop where
 sr:Sr W c M root C
 tk:∀ b t h,C.lookup b = some (some (some t,h))→∃ u,hAt M b = some u∧C.lookup (far W u b) = some (some (none,b))
 nl:∀ x b,C.lookup x = some (some (none,b))→x∉lt
theorem EvK.app {C r:List (Nat × CE)} {x:Nat} (h:EvK C x):EvK (C++r) x:=by
 rcases h with h | ⟨b,h⟩
 ·exact .inl (lk_app h)
 ·exact .inr ⟨b,lk_app h⟩
theorem EvK.some {C:List (Nat × CE)} {x:Nat} (h:EvK C x):∃ e,C.lookup x = some e:=by
 rcases h with h | ⟨b,h⟩
 ·exact ⟨_,h⟩
 ·exact ⟨_,h⟩
theorem lk_snoc {C:List (Nat × CE)} {x y:Nat} {e:CE} (h:C.lookup x = none):(C++[(x,e)]).lookup y = if y = x then some e else C.lookup y:=by
 split
 ·rename_i z
  rw [z]
  exact lk_new h
 ·exact lk_old (by assumption)
section
variable {W:Web} {c:Nat→Nat} {M:List (Option Nat)} {root:Nat} {lt:List Nat} {C:List (Nat × CE)}
theorem Sr.odd (hW:W.Ok) (hc:∀ t,t < W.ties.length→c (W.tie t).1≠c (W.tie t).2) (h2:∀ p,p < W.many→c p < 2) (s:Sr W c M root C) {t h:Nat} (a:W.at t h) (eh:EvK C h) (nw:C.lookup (far W t h) = none):Sr W c M root (C++[(far W t h,some (some t,h))]):=by
 obtain ⟨f1,f2,f3⟩:=far_at hW a
 have lk:=fun y => lk_snoc (y:=y) (e:=some (some t,h)) nw
 obtain ⟨e0,hh⟩:=eh.some
 have hlow:=s.low h e0 hh
 have cf:c h≠c (far W t h):=by
  have h1:=hc t a.1
  have tt:=hW.tie a.1
  unfold far
  rcases a.2 with z | z
  ·rw [if_pos z,← z]; exact h1
  ·rw [if_neg (by omega),← z]; exact h1.symm
 have ch:=s.se h eh
 have old:∀ y e,C.lookup y = some e→y≠far W t h:=fun y e q z => by rw [z,nw] at q; cases q
 have evb:∀ y,EvK (C++[(far W t h,some (some t,h))]) y→EvK C y:=fun y q => by
  rcases q with q | ⟨b,q⟩
  ·rw [lk] at q
   split at q
   ·cases q
   ·exact .inl q
  ·rw [lk] at q
   split at q
   ·cases q
   ·exact .inr ⟨b,q⟩
 refine ⟨?_,fun x e q => ?_,lk_app s.rt,fun x q => ?_,fun x u g q => ?_,fun x b q => ?_,s.bare,fun x u g q => ?_,fun x q => s.se x (evb x q)⟩
 ·rw [List.map_append,List.nodup_append]
  refine ⟨s.nd,by simp,fun x hx y hy e => ?_⟩
  have:y = far W t h:=by simpa using hy
  exact lk_none.mp nw (by rw [← this,← e]; exact hx)
 ·rw [lk] at q
  split at q
  ·rename_i z
   rw [z]
   exact f3
  ·exact s.low x e q
 ·rw [lk] at q
  split at q
  ·cases q
  ·exact s.rn x q
 ·rw [lk] at q
  split at q
  ·rename_i z
   cases q
   rw [z]
   refine ⟨f1,far_far hW a,eh.app,?_⟩
   rw [ixC_app hh,ixC_new nw]
   exact ixC_lt hh
  ·obtain ⟨a1,a2,a3,a4⟩:=s.od x u g q
   obtain ⟨e3,hg⟩:=a3.some
   exact ⟨a1,a2,a3.app,by rw [ixC_app hg,ixC_app q]; exact a4⟩
 ·rw [lk] at q
  split at q
  ·cases q
  ·obtain ⟨a1,⟨u,g,a2⟩,a3⟩:=s.ev x b q
   exact ⟨a1,⟨u,g,lk_app a2⟩,by rw [ixC_app a2,ixC_app q]; exact a3⟩
 ·rw [lk] at q
  split at q
  ·rename_i z
   rw [z]
   omega
  ·exact s.so x u g q
theorem Sr.even (hW:W.Ok) (hc:∀ t,t < W.ties.length→c (W.tie t).1≠c (W.tie t).2) (h2:∀ p,p < W.many→c p < 2) (m:MOk W M) (s:Sr W c M root C) {b t h u:Nat} (eb:C.lookup b = some (some (some t,h))) (nx:∀ x,C.lookup x≠some (some (none,b))) (eu:hAt M b = some u) :
  C.lookup (far W u b) = none∧Sr W c M root (C++[(far W u b,some (none,b))]):=by
 obtain ⟨a,e2⟩:=m.ok b u eu
 obtain ⟨f1,f2,f3⟩:=far_at hW a
 have cb:=s.so b t h eb
 have blow:=s.low b _ eb
 have rlow:=s.low root _ s.rt
 have cf:c b≠c (far W u b):=by
  have h1:=hc u a.1
  have tt:=hW.tie a.1
  unfold far
  rcases a.2 with z | z
  ·rw [if_pos z,← z]; exact h1
  ·rw [if_neg (by omega),← z]; exact h1.symm
 have c1:=h2 b blow
 have c2:=h2 root rlow
 have c3:=h2 _ f3
 have nw:C.lookup (far W u b) = none:=by
  cases q:C.lookup (far W u b) with
  | none => rfl
  | some e =>
   exfalso
   match e,q with
   | none,q =>
    have:=s.rn _ q
    rw [this,s.bare] at e2
    cases e2
   | some (some t',h'),q =>
    have:=s.so _ t' h' q
    omega
   | some (none,b'),q =>
    obtain ⟨⟨t',q1,q2⟩,_,_⟩:=s.ev _ b' q
    obtain ⟨a',e3⟩:=m.ok b' t' q1
    rw [q2,e2] at e3
    cases e3
    have:b' = b:=by
     rw [← far_far hW a',q2]
     exact far_far hW a
    subst this
    exact nx _ q
 refine ⟨nw,?_⟩
 have lk:=fun y => lk_snoc (y:=y) (e:=some (none,b)) nw
 refine ⟨?_,fun x e q => ?_,lk_app s.rt,fun x q => ?_,fun x u g q => ?_,fun x b' q => ?_,s.bare,fun x u g q => ?_,fun x q => ?_⟩
 ·rw [List.map_append,List.nodup_append]
  refine ⟨s.nd,by simp,fun x hx y hy e => ?_⟩
  have:y = far W u b:=by simpa using hy
  exact lk_none.mp nw (by rw [← this,← e]; exact hx)
 ·rw [lk] at q
  split at q
  ·rename_i z
   rw [z]
   exact f3
  ·exact s.low x e q
 ·rw [lk] at q
  split at q
  ·cases q
  ·exact s.rn x q
 ·rw [lk] at q
  split at q
  ·cases q
  ·obtain ⟨a1,a2,a3,a4⟩:=s.od x u g q
   obtain ⟨e3,hg⟩:=a3.some
   exact ⟨a1,a2,a3.app,by rw [ixC_app hg,ixC_app q]; exact a4⟩
 ·rw [lk] at q
  split at q
  ·rename_i z
   cases q
   rw [z]
   exact ⟨⟨u,eu,rfl⟩,⟨t,h,lk_app eb⟩,by rw [ixC_app eb,ixC_new nw]; exact ixC_lt eb⟩
  ·obtain ⟨a1,⟨u',g,a2⟩,a3⟩:=s.ev x b' q
   exact ⟨a1,⟨u',g,lk_app a2⟩,by rw [ixC_app a2,ixC_app q]; exact a3⟩
 ·rw [lk] at q
  split at q
  ·cases q
  ·exact s.so x u g q
 ·rcases q with q | ⟨b',q⟩
  ·rw [lk] at q
   split at q
   ·cases q
   ·exact s.se x (.inl q)
  ·rw [lk] at q
   split at q
   ·rename_i z
    rw [z]
    omega
   ·exact s.se x (.inr ⟨b',q⟩)
theorem Sr1.more (hW:W.Ok) (hc:∀ t,t < W.ties.length→c (W.tie t).1≠c (W.tie t).2) (h2:∀ p,p < W.many→c p < 2) (m:MOk W M) (s:Sr1 W c M root lt C) {t h u:Nat} (a:W.at t h) (eh:EvK C h) (nw:C.lookup (far W t h) = none) (eu:hAt M (far W t h) = some u) :
  C.lookup (far W u (far W t h)) = none∧far W u (far W t h)≠far W t h∧Sr W c M root (C++[(far W t h,some (some t,h))]++[(far W u (far W t h),some (none,far W t h))])∧(far W u (far W t h)∉lt→Sr1 W c M root lt (C++[(far W t h,some (some t,h))]++[(far W u (far W t h),some (none,far W t h))])):=by
 have s1:=s.sr.odd hW hc h2 a eh nw
 have eb:(C++[(far W t h,some (some t,h))]).lookup (far W t h) = some (some (some t,h)):=lk_new nw
 have nx:∀ x,(C++[(far W t h,some (some t,h))]).lookup x≠some (some (none,far W t h)):=fun x q => by
  rw [lk_snoc nw] at q
  split at q
  ·cases q
  ·obtain ⟨_,⟨u,g,a2⟩,_⟩:=s.sr.ev x _ q
   rw [nw] at a2
   cases a2
 obtain ⟨n1,s2⟩:=s1.even hW hc h2 m eb nx eu
 have n1':=n1
 rw [lk_snoc nw] at n1'
 have ne:far W u (far W t h)≠far W t h:=fun z => by rw [if_pos z] at n1'; cases n1'
 rw [if_neg ne] at n1'
 refine ⟨n1',ne,s2,fun nl => ⟨s2,fun b t' h' q => ?_,fun x b q => ?_⟩⟩
 ·have q2:=q
  rw [lk_snoc n1] at q
  split at q
  ·cases q
  ·rw [lk_snoc nw] at q
   split at q
   ·rename_i z
    rw [z]
    refine ⟨u,eu,?_⟩
    rw [lk_snoc n1,if_pos rfl]
   ·obtain ⟨v,v1,v2⟩:=s.tk b t' h' q
    exact ⟨v,v1,lk_app (lk_app v2)⟩
 ·rw [lk_snoc n1] at q
  split at q
  ·rename_i z
   rw [z]
   exact nl
  ·rw [lk_snoc nw] at q
   split at q
   ·cases q
   ·exact s.nl x b q
theorem Sr.len (s:Sr W c M root C):C.length≤W.many:=by
 have:=nodup_le (m:=List.range W.many) s.nd fun x hx => by
  obtain ⟨e,he⟩:=lk_some hx
  exact List.mem_range.mpr (s.low x e he)
 simpa using this
end
structure Tr (W:Web) (M:List (Option Nat)) (C:List (Nat × CE)) (due:Nat→Prop) (A B:Nat→Prop) (b:Nat) (N:List (Option Nat)):Prop where
 len:N.length = W.many
 ok:MOk W (N.set b none)
 same:∀ x e,C.lookup x = some e→ixC C x≤ixC C b→hAt N x = hAt M x
 due:∀ p,due p→p = b∨hAt N p≠none
 fr:∀ x,A x∨B x→hAt N x = hAt M x
 nb:¬ B b
structure Hun (W:Web) (M:List (Option Nat)) (A B:Nat→Prop):Prop where
 out:∀ a,A a→∀ t,W.at t a→B (far W t a)
 back:∀ b,B b→∃ t,hAt M b = some t∧A (far W t b)
section
variable {W:Web} {c:Nat→Nat} {M N:List (Option Nat)} {root b:Nat} {C:List (Nat × CE)} {due A B:Nat→Prop}
theorem Tr.step (hW:W.Ok) (m:MOk W M) (s:Sr W c M root C) (H:Hun W M A B) (hB:∀ x,B x→c x≠c root) (T:Tr W M C due A B b N) {t a:Nat} (eb:C.lookup b = some (some (some t,a))) :
  (a = root∧MOk W ((N.set b (some t)).set a (some t))∧(∀ p,due p∨p = root→hAt ((N.set b (some t)).set a (some t)) p≠none)∧∀ x,A x∨B x→hAt ((N.set b (some t)).set a (some t)) x = hAt M x) ∨
  ∃ b2,C.lookup a = some (some (none,b2))∧ixC C b2 < ixC C b∧(∃ t h,C.lookup b2 = some (some (some t,h)))∧Tr W M C due A B b2 ((N.set b (some t)).set a (some t)):=by
 obtain ⟨a1,a2,a3,a4⟩:=s.od b t a eb
 have lb:b < N.length:=by rw [T.len]; exact s.low _ _ eb
 obtain ⟨ea,hea⟩:=a3.some
 have la:a < N.length:=by rw [T.len]; exact s.low _ _ hea
 have ne:a≠b:=fun z => by rw [z] at a4; omega
 have gt:∀ x,hAt ((N.set b (some t)).set a (some t)) x = if x = a∨x = b then some t else hAt N x:=fun x => by
  rw [hAt_put _ (by simpa using la),hAt_put _ lb]
  by_cases z:x = a
  ·rw [if_pos z,if_pos (.inl z)]
  ·rw [if_neg z]
   by_cases z2:x = b
   ·rw [if_pos z2,if_pos (.inr z2)]
   ·rw [if_neg z2,if_neg (by omega)]
 have gn:∀ x,hAt (N.set b none) x = if x = b then none else hAt N x:=fun x => hAt_put _ lb x
 have na:hAt N a = hAt M a:=T.same a ea hea (by omega)
 have nA:¬ A a:=fun z => T.nb (by
  have:=H.out a z t (by rw [← a2]; exact (far_at hW a1).1)
  rwa [← a2,far_far hW a1] at this)
 have nBa:¬ B a→∀ x,A x∨B x→x≠a∧x≠b:=fun nB x z => by
  constructor
  ·rintro rfl
   rcases z with z | z
   ·exact nA z
   ·exact nB z
  ·rintro rfl
   rcases z with z | z
   ·have q:=H.out x z t a1
    rw [a2] at q
    exact nB q
   ·exact T.nb z
 have cov:∀ p,due p→hAt ((N.set b (some t)).set a (some t)) p≠none:=fun p hp => by
  rw [gt]
  split
  ·exact fun z => nomatch z
  ·rename_i z
   rcases T.due p hp with q | q
   ·exact absurd (.inr q) z
   ·exact q
 rcases a3 with a3 | ⟨b2,a3⟩
 ·left
  have er:=s.rn a a3
  have bare:hAt (N.set b none) a = none:=by
   rw [gn,if_neg ne,na,er]
   exact s.bare
  have bb:hAt (N.set b none) b = none:=by rw [gn,if_pos rfl]
  have ok:=T.ok.add hW a1 a2 bare bb
  have nB:¬ B a:=fun z => by
   obtain ⟨t',q,_⟩:=H.back a z
   rw [er,s.bare] at q
   cases q
  refine ⟨er,ok.congr (by simp) fun x => ?_,fun p hp => ?_,fun x z => ?_⟩
  ·rw [gt,hAt_put _ (by simpa using la),hAt_put _ (by simpa using lb),gn]
   by_cases z:x = a
   ·rw [if_pos (.inl z),if_pos z]
   ·rw [if_neg z]
    by_cases z2:x = b
    ·rw [if_pos (.inr z2),if_pos z2]
    ·rw [if_neg (by omega),if_neg z2,if_neg z2]
  ·rcases hp with hp | hp
   ·exact cov p hp
   ·rw [gt,if_pos (.inl (hp.trans er.symm))]
    exact fun z => nomatch z
  ·obtain ⟨z1,z2⟩:=nBa nB x z
   rw [gt,if_neg (by omega)]
   exact T.fr x z
 ·right
  obtain ⟨⟨t2,q1,q2⟩,⟨t3,h3,q3⟩,q4⟩:=s.ev a b2 a3
  have n2:hAt N b2 = some t2:=(T.same b2 _ q3 (by omega)).trans q1
  obtain ⟨ab2,m2⟩:=m.ok b2 t2 q1
  rw [q2] at m2
  have nea:b2≠a:=fun z => by rw [z] at q4; omega
  have neb:b2≠b:=fun z => by rw [z] at q4; omega
  have n3:hAt (N.set b none) b2 = some t2:=by rw [gn,if_neg neb]; exact n2
  have ok1:=T.ok.cut hW n3 q2
  have l1:b2 < (N.set b none).length:=hAt_len n3
  have g1:∀ x,hAt (((N.set b none).set b2 none).set a none) x = if x = a∨x = b2∨x = b then none else hAt N x:=fun x => by
   rw [hAt_put _ (by simpa using la),hAt_put _ l1,gn]
   by_cases z:x = a
   ·rw [if_pos z,if_pos (.inl z)]
   ·rw [if_neg z]
    by_cases z2:x = b2
    ·rw [if_pos z2,if_pos (.inr (.inl z2))]
    ·rw [if_neg z2]
     by_cases z3:x = b
     ·rw [if_pos z3,if_pos (.inr (.inr z3))]
     ·rw [if_neg z3,if_neg (by omega)]
  have ok2:=ok1.add hW a1 a2 (by rw [g1,if_pos (.inl rfl)]) (by rw [g1,if_pos (.inr (.inr rfl))])
  have nB2:¬ B b2:=fun z => by
   obtain ⟨t',p1,p2⟩:=H.back b2 z
   rw [q1] at p1
   cases p1
   rw [q2] at p2
   exact nA p2
  have nB:¬ B a:=fun z => hB a z (s.se a (.inr ⟨b2,a3⟩))
  refine ⟨b2,a3,by omega,⟨t3,h3,q3⟩,⟨by simp [T.len],ok2.congr (by simp) fun x => ?_,fun x e q r => ?_,fun p hp => .inr (cov p hp),fun x z => ?_,nB2⟩⟩
  ·have l2:b2 < ((N.set b (some t)).set a (some t)).length:=by simpa using l1
   rw [hAt_put _ l2,gt,hAt_put _ (by simpa using la),hAt_put _ (by simpa using lb),g1]
   by_cases z:x = a
   ·rw [if_neg (by omega),if_pos (.inl z),if_pos z]
   ·rw [if_neg z]
    by_cases z2:x = b
    ·rw [if_neg (by omega),if_pos (.inr z2),if_pos z2]
    ·rw [if_neg z2]
     by_cases z3:x = b2
     ·rw [if_pos z3,if_pos (.inr (.inl z3))]
     ·rw [if_neg z3,if_neg (by omega),if_neg (by omega)]
  ·rw [gt,if_neg]
   ·exact T.same x e q (by omega)
   ·rintro (z | z)
    ·rw [z] at r
     omega
    ·rw [z] at r
     omega
  ·obtain ⟨z1,z2⟩:=nBa nB x z
   rw [gt,if_neg (by omega)]
   exact T.fr x z
structure Shut1 (W:Web) (c:Nat→Nat) (M:List (Option Nat)) (root:Nat) (lt:List Nat) (C:List (Nat × CE)):Prop where
 s1:Sr1 W c M root lt C
 cl:∀ x,EvK C x→∀ t,W.at t x→∃ e,C.lookup (far W t x) = some e
def OdK (C:List (Nat × CE)) (x:Nat):Prop:=∃ t h,C.lookup x = some (some (some t,h))
theorem ce_cases (C:List (Nat × CE)) {x:Nat} {e:CE} (h:C.lookup x = some e):EvK C x∨OdK C x:=by
 match e,h with
 | none,h => exact .inl (.inl h)
 | some (none,b),h => exact .inl (.inr ⟨b,h⟩)
 | some (some t,g),h => exact .inr ⟨t,g,h⟩
theorem Shut1.hun {lt:List Nat} (hW:W.Ok) (hc:∀ t,t < W.ties.length→c (W.tie t).1≠c (W.tie t).2) (s:Shut1 W c M root lt C):Hun W M (EvK C) (OdK C):=by
 refine ⟨fun a ha t at1 => ?_,fun b hb => ?_⟩
 ·obtain ⟨e,q⟩:=s.cl a ha t at1
  rcases ce_cases C q with z | z
  ·exfalso
   have c1:=s.s1.sr.se a ha
   have c2:=s.s1.sr.se _ z
   have h1:=hc t at1.1
   have tt:=hW.tie at1.1
   have:c a≠c (far W t a):=by
    unfold far
    rcases at1.2 with z | z
    ·rw [if_pos z,← z]; exact h1
    ·rw [if_neg (by omega),← z]; exact h1.symm
   omega
  ·exact z
 ·obtain ⟨t,h,q⟩:=hb
  obtain ⟨u,q1,q2⟩:=s.s1.tk b t h q
  exact ⟨u,q1,.inr ⟨b,q2⟩⟩
theorem Shut1.more {lt:List Nat} (hW:W.Ok) (m:MOk W M) (s:Shut1 W c M root lt C) {A B:List Nat} (nB:B.Nodup) (hA:∀ x,EvK C x→x∈A) (hB:∀ x,x∈B→OdK C x):B.length + 1≤A.length:=by
 have mt:∀ b,b∈B→∃ u,hAt M b = some u∧C.lookup (far W u b) = some (some (none,b)):=fun b hb => by
  obtain ⟨t,h,q⟩:=hB b hb
  exact s.s1.tk b t h q
 let f:Nat→Nat:=fun b => match hAt M b with
  | some u => far W u b
  | none => b
 have fe:∀ b u,hAt M b = some u→f b = far W u b:=fun b u e => by
  show (match hAt M b with | some u => far W u b | none => b) = _
  rw [e]
 have nd:(root :: B.map f).Nodup:=by
  rw [List.nodup_cons]
  refine ⟨fun h => ?_,?_⟩
  ·obtain ⟨b,hb,e⟩:=List.mem_map.mp h
   obtain ⟨u,q1,q2⟩:=mt b hb
   rw [fe b u q1] at e
   rw [e,s.s1.sr.rt] at q2
   cases q2
  ·have:∀ l:List Nat,l.Nodup→(∀ b,b∈l→b∈B)→(l.map f).Nodup:=fun l => by
    induction l with
    | nil => exact fun _ _ => .nil
    | cons b l ih =>
     intro nd sub
     rw [List.nodup_cons] at nd
     rw [List.map_cons,List.nodup_cons]
     refine ⟨fun h => ?_,ih nd.2 fun x hx => sub x (List.mem_cons_of_mem _ hx)⟩
     obtain ⟨b',hb',e⟩:=List.mem_map.mp h
     obtain ⟨u,q1,q2⟩:=mt b (sub b List.mem_cons_self)
     obtain ⟨u',p1,p2⟩:=mt b' (sub b' (List.mem_cons_of_mem _ hb'))
     rw [fe b u q1,fe b' u' p1] at e
     rw [e] at p2
     rw [q2] at p2
     cases p2
     exact nd.1 hb'
   exact this B nB fun _ h => h
 have:=nodup_le (m:=A) nd fun x hx => by
  (rcases List.mem_cons.mp hx with e | hx)
  ·rw [e]
   exact hA _ (.inl s.s1.sr.rt)
  ·obtain ⟨b,hb,rfl⟩:=List.mem_map.mp hx
   obtain ⟨u,q1,q2⟩:=mt b hb
   rw [fe b u q1]
   exact hA _ (.inr ⟨b,q2⟩)
 simpa using this
theorem sum_at {l:List Nat} (nd:l.Nodup):∀ qs:List (Nat × Nat),(∀ q,q∈qs→¬ (q.1∈l∧q.2∈l))→(l.map fun p => qs.countP fun q => q.1 == p||q.2 == p).sum = qs.countP fun q => decide (q.1∈l∨q.2∈l)
 | [],_ => by
  induction l with
  | nil => rfl
  | cons x l ih => simpa using ih (List.nodup_cons.mp nd).2
 | q :: qs,h => by
  have ih:=sum_at nd qs fun x hx => h x (List.mem_cons_of_mem _ hx)
  have e:∀ l:List Nat,(l.map fun p => (q :: qs).countP fun q => q.1 == p||q.2 == p).sum = (l.map fun p => qs.countP fun q => q.1 == p||q.2 == p).sum + l.countP fun p => q.1 == p||q.2 == p:=fun l => by
   induction l with
   | nil => rfl
   | cons x l ih2 =>
    rw [List.map_cons,List.map_cons,List.sum_cons,List.sum_cons,List.countP_cons (p:=fun p => q.1 == p||q.2 == p) (a:=x),ih2,List.countP_cons]
    omega
  rw [e,ih,List.countP_cons]
  have z:(l.countP fun p => q.1 == p||q.2 == p) = if decide (q.1∈l∨q.2∈l) = true then 1 else 0:=by
   have hq:=h q List.mem_cons_self
   by_cases a:q.1∈l
   ·have b:q.2∉l:=fun z => hq ⟨a,z⟩
    have:(l.countP fun p => q.1 == p||q.2 == p) = l.countP fun p => p == q.1:=List.countP_congr fun p hp => by
     have:q.2≠p:=fun z => b (z ▸ hp)
     simp only [Bool.or_eq_true,beq_iff_eq]
     omega
    rw [this,count_one' nd,if_pos a,if_pos (by simp [a])]
   ·have:(l.countP fun p => q.1 == p||q.2 == p) = l.countP fun p => p == q.2:=List.countP_congr fun p hp => by
     have:q.1≠p:=fun z => a (z ▸ hp)
     simp only [Bool.or_eq_true,beq_iff_eq]
     omega
    rw [this,count_one' nd]
    simp [a]
  omega
theorem Shut1.never {lt:List Nat} (hW:W.Ok) (hc:∀ t,t < W.ties.length→c (W.tie t).1≠c (W.tie t).2) (h2:∀ p,p < W.many→c p < 2) (m:MOk W M) (s:Shut1 W c M root lt C) {most:Nat} (h0:0 < most) (hm:∀ p,p < W.many→(tiesAt W p).length≤most) (hl:∀ p,p < W.many→p∉lt→(tiesAt W p).length = most) (rl:root∉lt):False:=by
 classical
 let A:=(List.range W.many).filter fun x => decide (EvK C x)
 let B:=(List.range W.many).filter fun x => decide (OdK C x)
 have mA:∀ x,x∈A↔x < W.many∧EvK C x:=fun x => by simp [A]
 have mB:∀ x,x∈B↔x < W.many∧OdK C x:=fun x => by simp [B]
 have nA:A.Nodup:=List.nodup_range.filter _
 have nB:B.Nodup:=List.nodup_range.filter _
 have len:=s.more hW m (A:=A) nB (fun x h => (mA x).mpr ⟨by
  obtain ⟨e,q⟩:=h.some
  exact s.s1.sr.low x e q,h⟩) fun x h => ((mB x).mp h).2
 have side:∀ q,q∈W.ties→c q.1≠c q.2∧q.1 < W.many∧q.2 < W.many:=fun q hq => by
  obtain ⟨i,hi,e⟩:=List.mem_iff_getElem.mp hq
  have e2:W.tie i = q:=by
   have:=tie_at W hi
   rw [List.getElem?_eq_getElem hi,e] at this
   (exact (Option.some.inj this).symm)
  have h1:=hc i hi
  have tt:=hW.tie hi
  rw [e2] at h1 tt
  exact ⟨h1,by omega,tt.2⟩
 have ca:∀ x,x∈A→c x = c root:=fun x h => s.s1.sr.se x ((mA x).mp h).2
 have cb:∀ x,x∈B→c x≠c root:=fun x h => by
  obtain ⟨_,t,g,q⟩:=(mB x).mp h
  exact s.s1.sr.so x t g q
 have rl2:=s.s1.sr.low root _ s.s1.sr.rt
 have sA:=sum_at nA W.ties fun q hq z => by
  have:=(side q hq).1
  have:=ca _ z.1
  have:=ca _ z.2
  omega
 have sB:=sum_at nB W.ties fun q hq z => by
  obtain ⟨d1,d2,d3⟩:=side q hq
  have:=cb _ z.1
  have:=cb _ z.2
  have:=h2 _ d2
  have:=h2 _ d3
  have:=h2 root rl2
  omega
 have le:W.ties.countP (fun q => decide (q.1∈A∨q.2∈A))≤W.ties.countP fun q => decide (q.1∈B∨q.2∈B):=by
  refine List.countP_mono_left fun q hq h => ?_
  obtain ⟨i,hi,e⟩:=List.mem_iff_getElem.mp hq
  have e2:W.tie i = q:=by
   have:=tie_at W hi
   rw [List.getElem?_eq_getElem hi,e] at this
   (exact (Option.some.inj this).symm)
  have tt:=hW.tie hi
  rw [e2] at tt
  have H:=s.hun hW hc
  have h:q.1∈A∨q.2∈A:=by simpa using h
  have:q.1∈B∨q.2∈B:=by
   rcases h with h | h
   ·have a:W.at i q.1:=⟨hi,.inl (by rw [e2])⟩
    have o:=H.out q.1 ((mA _).mp h).2 i a
    have f:far W i q.1 = q.2:=by
     unfold far
     rw [e2,if_pos rfl]
    rw [f] at o
    exact .inr ((mB _).mpr ⟨tt.2,o⟩)
   ·have a:W.at i q.2:=⟨hi,.inr (by rw [e2])⟩
    have o:=H.out q.2 ((mA _).mp h).2 i a
    have f:far W i q.2 = q.1:=by
     unfold far
     rw [e2,if_neg (by omega)]
    rw [f] at o
    exact .inl ((mB _).mpr ⟨by omega,o⟩)
  simpa using this
 have dA:(A.map fun p => W.ties.countP fun q => q.1 == p||q.2 == p).sum = A.length * most:=by
  have:∀ l:List Nat,(∀ p,p∈l→p∈A)→(l.map fun p => W.ties.countP fun q => q.1 == p||q.2 == p).sum = l.length * most:=fun l => by
   induction l with
   | nil => intro _; simp
   | cons x l ih =>
    intro h
    have hx:=(mA x).mp (h x List.mem_cons_self)
    rw [List.map_cons,List.sum_cons,ih fun p hp => h p (List.mem_cons_of_mem _ hp),← tiesAt_len,hl x hx.1,List.length_cons,Nat.add_mul]
    ·omega
    ·rcases hx.2 with z | ⟨b,z⟩
     ·rw [s.s1.sr.rn x z]
      exact rl
     ·exact s.s1.nl x b z
  exact this A fun _ h => h
 have dB:(B.map fun p => W.ties.countP fun q => q.1 == p||q.2 == p).sum≤B.length * most:=by
  have:∀ l:List Nat,(∀ p,p∈l→p∈B)→(l.map fun p => W.ties.countP fun q => q.1 == p||q.2 == p).sum≤l.length * most:=fun l => by
   induction l with
   | nil => intro _; simp
   | cons x l ih =>
    intro h
    have hx:=(mB x).mp (h x List.mem_cons_self)
    have i:=ih fun p hp => h p (List.mem_cons_of_mem _ hp)
    have:=hm x hx.1
    rw [tiesAt_len] at this
    rw [List.map_cons,List.sum_cons,List.length_cons,Nat.add_mul]
    omega
  exact this B fun _ h => h
 rw [dA] at sA
 have x1:A.length * most≤B.length * most:=by omega
 have x2:(B.length + 1) * most≤A.length * most:=Nat.mul_le_mul_right _ len
 rw [Nat.add_mul] at x2
 omega
end
end G
end Hu
noncomputable section
namespace Hu
namespace G
open PySem L2
@[simp] theorem lk_self {t:T} (f:Str) (r:List (Str × T)):((f,t) :: r).lookup f = some t:=by rw [List.lookup_cons,beq_self_eq_true]
@[simp] theorem lk_next {t:T} {f g:Str} (r:List (Str × T)) (h:(f == g) = false):((g,t) :: r).lookup f = r.lookup f:=by rw [List.lookup_cons,h]
@[simp] theorem sn_Going_0_1:(Str.ofString "web" = Str.ofString "by_place") = False:=eq_false (by decide +kernel)
@[simp] theorem sb_Going_0_1:(Str.ofString "web" == Str.ofString "by_place") = false:=by decide +kernel
@[simp] theorem sn_Going_0_2:(Str.ofString "web" = Str.ofString "side") = False:=eq_false (by decide +kernel)
@[simp] theorem sb_Going_0_2:(Str.ofString "web" == Str.ofString "side") = false:=by decide +kernel
@[simp] theorem sn_Going_0_3:(Str.ofString "web" = Str.ofString "came") = False:=eq_false (by decide +kernel)
@[simp] theorem sb_Going_0_3:(Str.ofString "web" == Str.ofString "came") = false:=by decide +kernel
@[simp] theorem sn_Going_0_4:(Str.ofString "web" = Str.ofString "go_from") = False:=eq_false (by decide +kernel)
@[simp] theorem sb_Going_0_4:(Str.ofString "web" == Str.ofString "go_from") = false:=by decide +kernel
@[simp] theorem sn_Going_0_5:(Str.ofString "web" = Str.ofString "way_to") = False:=eq_false (by decide +kernel)
@[simp] theorem sb_Going_0_5:(Str.ofString "web" == Str.ofString "way_to") = false:=by decide +kernel
@[simp] theorem sn_Going_0_6:(Str.ofString "web" = Str.ofString "ring_by") = False:=eq_false (by decide +kernel)
@[simp] theorem sb_Going_0_6:(Str.ofString "web" == Str.ofString "ring_by") = false:=by decide +kernel
@[simp] theorem sn_Going_1_0:(Str.ofString "by_place" = Str.ofString "web") = False:=eq_false (by decide +kernel)
@[simp] theorem sb_Going_1_0:(Str.ofString "by_place" == Str.ofString "web") = false:=by decide +kernel
@[simp] theorem sn_Going_1_2:(Str.ofString "by_place" = Str.ofString "side") = False:=eq_false (by decide +kernel)
@[simp] theorem sb_Going_1_2:(Str.ofString "by_place" == Str.ofString "side") = false:=by decide +kernel
@[simp] theorem sn_Going_1_3:(Str.ofString "by_place" = Str.ofString "came") = False:=eq_false (by decide +kernel)
@[simp] theorem sb_Going_1_3:(Str.ofString "by_place" == Str.ofString "came") = false:=by decide +kernel
@[simp] theorem sn_Going_1_4:(Str.ofString "by_place" = Str.ofString "go_from") = False:=eq_false (by decide +kernel)
@[simp] theorem sb_Going_1_4:(Str.ofString "by_place" == Str.ofString "go_from") = false:=by decide +kernel
@[simp] theorem sn_Going_1_5:(Str.ofString "by_place" = Str.ofString "way_to") = False:=eq_false (by decide +kernel)
@[simp] theorem sb_Going_1_5:(Str.ofString "by_place" == Str.ofString "way_to") = false:=by decide +kernel
@[simp] theorem sn_Going_1_6:(Str.ofString "by_place" = Str.ofString "ring_by") = False:=eq_false (by decide +kernel)
@[simp] theorem sb_Going_1_6:(Str.ofString "by_place" == Str.ofString "ring_by") = false:=by decide +kernel
@[simp] theorem sn_Going_2_0:(Str.ofString "side" = Str.ofString "web") = False:=eq_false (by decide +kernel)
@[simp] theorem sb_Going_2_0:(Str.ofString "side" == Str.ofString "web") = false:=by decide +kernel
@[simp] theorem sn_Going_2_1:(Str.ofString "side" = Str.ofString "by_place") = False:=eq_false (by decide +kernel)
@[simp] theorem sb_Going_2_1:(Str.ofString "side" == Str.ofString "by_place") = false:=by decide +kernel
@[simp] theorem sn_Going_2_3:(Str.ofString "side" = Str.ofString "came") = False:=eq_false (by decide +kernel)
@[simp] theorem sb_Going_2_3:(Str.ofString "side" == Str.ofString "came") = false:=by decide +kernel
@[simp] theorem sn_Going_2_4:(Str.ofString "side" = Str.ofString "go_from") = False:=eq_false (by decide +kernel)
@[simp] theorem sb_Going_2_4:(Str.ofString "side" == Str.ofString "go_from") = false:=by decide +kernel
@[simp] theorem sn_Going_2_5:(Str.ofString "side" = Str.ofString "way_to") = False:=eq_false (by decide +kernel)
@[simp] theorem sb_Going_2_5:(Str.ofString "side" == Str.ofString "way_to") = false:=by decide +kernel
@[simp] theorem sn_Going_2_6:(Str.ofString "side" = Str.ofString "ring_by") = False:=eq_false (by decide +kernel)
@[simp] theorem sb_Going_2_6:(Str.ofString "side" == Str.ofString "ring_by") = false:=by decide +kernel
@[simp] theorem sn_Going_3_0:(Str.ofString "came" = Str.ofString "web") = False:=eq_false (by decide +kernel)
@[simp] theorem sb_Going_3_0:(Str.ofString "came" == Str.ofString "web") = false:=by decide +kernel
@[simp] theorem sn_Going_3_1:(Str.ofString "came" = Str.ofString "by_place") = False:=eq_false (by decide +kernel)
@[simp] theorem sb_Going_3_1:(Str.ofString "came" == Str.ofString "by_place") = false:=by decide +kernel
@[simp] theorem sn_Going_3_2:(Str.ofString "came" = Str.ofString "side") = False:=eq_false (by decide +kernel)
@[simp] theorem sb_Going_3_2:(Str.ofString "came" == Str.ofString "side") = false:=by decide +kernel
@[simp] theorem sn_Going_3_4:(Str.ofString "came" = Str.ofString "go_from") = False:=eq_false (by decide +kernel)
@[simp] theorem sb_Going_3_4:(Str.ofString "came" == Str.ofString "go_from") = false:=by decide +kernel
@[simp] theorem sn_Going_3_5:(Str.ofString "came" = Str.ofString "way_to") = False:=eq_false (by decide +kernel)
@[simp] theorem sb_Going_3_5:(Str.ofString "came" == Str.ofString "way_to") = false:=by decide +kernel
@[simp] theorem sn_Going_3_6:(Str.ofString "came" = Str.ofString "ring_by") = False:=eq_false (by decide +kernel)
@[simp] theorem sb_Going_3_6:(Str.ofString "came" == Str.ofString "ring_by") = false:=by decide +kernel
@[simp] theorem sn_Going_4_0:(Str.ofString "go_from" = Str.ofString "web") = False:=eq_false (by decide +kernel)
@[simp] theorem sb_Going_4_0:(Str.ofString "go_from" == Str.ofString "web") = false:=by decide +kernel
@[simp] theorem sn_Going_4_1:(Str.ofString "go_from" = Str.ofString "by_place") = False:=eq_false (by decide +kernel)
@[simp] theorem sb_Going_4_1:(Str.ofString "go_from" == Str.ofString "by_place") = false:=by decide +kernel
@[simp] theorem sn_Going_4_2:(Str.ofString "go_from" = Str.ofString "side") = False:=eq_false (by decide +kernel)
@[simp] theorem sb_Going_4_2:(Str.ofString "go_from" == Str.ofString "side") = false:=by decide +kernel
@[simp] theorem sn_Going_4_3:(Str.ofString "go_from" = Str.ofString "came") = False:=eq_false (by decide +kernel)
@[simp] theorem sb_Going_4_3:(Str.ofString "go_from" == Str.ofString "came") = false:=by decide +kernel
@[simp] theorem sn_Going_4_5:(Str.ofString "go_from" = Str.ofString "way_to") = False:=eq_false (by decide +kernel)
@[simp] theorem sb_Going_4_5:(Str.ofString "go_from" == Str.ofString "way_to") = false:=by decide +kernel
@[simp] theorem sn_Going_4_6:(Str.ofString "go_from" = Str.ofString "ring_by") = False:=eq_false (by decide +kernel)
@[simp] theorem sb_Going_4_6:(Str.ofString "go_from" == Str.ofString "ring_by") = false:=by decide +kernel
@[simp] theorem sn_Going_5_0:(Str.ofString "way_to" = Str.ofString "web") = False:=eq_false (by decide +kernel)
@[simp] theorem sb_Going_5_0:(Str.ofString "way_to" == Str.ofString "web") = false:=by decide +kernel
@[simp] theorem sn_Going_5_1:(Str.ofString "way_to" = Str.ofString "by_place") = False:=eq_false (by decide +kernel)
@[simp] theorem sb_Going_5_1:(Str.ofString "way_to" == Str.ofString "by_place") = false:=by decide +kernel
@[simp] theorem sn_Going_5_2:(Str.ofString "way_to" = Str.ofString "side") = False:=eq_false (by decide +kernel)
@[simp] theorem sb_Going_5_2:(Str.ofString "way_to" == Str.ofString "side") = false:=by decide +kernel
@[simp] theorem sn_Going_5_3:(Str.ofString "way_to" = Str.ofString "came") = False:=eq_false (by decide +kernel)
@[simp] theorem sb_Going_5_3:(Str.ofString "way_to" == Str.ofString "came") = false:=by decide +kernel
@[simp] theorem sn_Going_5_4:(Str.ofString "way_to" = Str.ofString "go_from") = False:=eq_false (by decide +kernel)
@[simp] theorem sb_Going_5_4:(Str.ofString "way_to" == Str.ofString "go_from") = false:=by decide +kernel
@[simp] theorem sn_Going_5_6:(Str.ofString "way_to" = Str.ofString "ring_by") = False:=eq_false (by decide +kernel)
@[simp] theorem sb_Going_5_6:(Str.ofString "way_to" == Str.ofString "ring_by") = false:=by decide +kernel
@[simp] theorem sn_Going_6_0:(Str.ofString "ring_by" = Str.ofString "web") = False:=eq_false (by decide +kernel)
@[simp] theorem sb_Going_6_0:(Str.ofString "ring_by" == Str.ofString "web") = false:=by decide +kernel
@[simp] theorem sn_Going_6_1:(Str.ofString "ring_by" = Str.ofString "by_place") = False:=eq_false (by decide +kernel)
@[simp] theorem sb_Going_6_1:(Str.ofString "ring_by" == Str.ofString "by_place") = false:=by decide +kernel
@[simp] theorem sn_Going_6_2:(Str.ofString "ring_by" = Str.ofString "side") = False:=eq_false (by decide +kernel)
@[simp] theorem sb_Going_6_2:(Str.ofString "ring_by" == Str.ofString "side") = false:=by decide +kernel
@[simp] theorem sn_Going_6_3:(Str.ofString "ring_by" = Str.ofString "came") = False:=eq_false (by decide +kernel)
@[simp] theorem sb_Going_6_3:(Str.ofString "ring_by" == Str.ofString "came") = false:=by decide +kernel
@[simp] theorem sn_Going_6_4:(Str.ofString "ring_by" = Str.ofString "go_from") = False:=eq_false (by decide +kernel)
@[simp] theorem sb_Going_6_4:(Str.ofString "ring_by" == Str.ofString "go_from") = false:=by decide +kernel
@[simp] theorem sn_Going_6_5:(Str.ofString "ring_by" = Str.ofString "way_to") = False:=eq_false (by decide +kernel)
@[simp] theorem sb_Going_6_5:(Str.ofString "ring_by" == Str.ofString "way_to") = false:=by decide +kernel
def N_is_number:List Str:=["thing"]
def g_is_number_1:SG:=(sRet (gAndV (gP1 (kIsi .int) (.nm 0)) (gP1 kNot (.val (gP1 (kIsi .bool) (.nm 0))))))
def g_is_number:SG:=g_is_number_1
def fn_is_number:FnT:=fnOf 1 1 [] g_is_number
def N_ties_by_place:List Str:=["web","found","number","place","one","other"]
def c_ties_by_place_1:G T:=(gLc [3] (gOs [(.pk (gIx kIxA (.nm 0) (.con (.int 0) (.int 0))))] kRng1) (setS 3) gYes (gLst []))
def g_ties_by_place_1:SG:=(sSet 1 c_ties_by_place_1)
def g_ties_by_place_2_1:SG:=(sDrop (gMutL 1 [.ix (.nm 4)] [(.val (Opd.vg (.nm 2)))] mApp))
def g_ties_by_place_2_2:SG:=(sDrop (gMutL 1 [.ix (.nm 5)] [(.val (Opd.vg (.nm 2)))] mApp))
def g_ties_by_place_2:SG:=(sFor [2,4,5] (gEnum (.pk (gIx kIxA (.nm 0) (.con (.int 1) (.int 1))))) (setTup [(setS 2),(setTup [(setS 4),(setS 5)])]) (sSeq g_ties_by_place_2_1 g_ties_by_place_2_2))
def g_ties_by_place_3:SG:=(sRet (Opd.vg (.nm 1)))
def g_ties_by_place:SG:=(sSeq g_ties_by_place_1 (sSeq g_ties_by_place_2 g_ties_by_place_3))
def fn_ties_by_place:FnT:=fnOf 1 6 [1,2,4,5] g_ties_by_place
def N_Going___init:List Str:=["self","web"]
def g_Going___init_1:SG:=(sFldPut 0 "Going" "web" (gFzE (Opd.vg (.nm 1))))
def g_Going___init_2:SG:=(sFldPut 0 "Going" "by_place" (gFzE (gUser fn_ties_by_place [false] [(.nm 1)])))
def g_Going___init_3:SG:=(sFldPut 0 "Going" "side" gNewK)
def g_Going___init_4:SG:=(sFldPut 0 "Going" "came" gNewK)
def g_Going___init:SG:=(sSeq g_Going___init_1 (sSeq g_Going___init_2 (sSeq g_Going___init_3 g_Going___init_4)))
def fn_Going___init:FnT:=fnOf 2 2 [] g_Going___init
def N_Going_go_from:List Str:=["self","place","waiting","here","tie","further"]
def g_Going_go_from_1:SG:=(sPutL 0 [.fld "Going" "side"] (.nm 1) (Opd.vg (.con (.int 0) (.int 0))))
def g_Going_go_from_2:SG:=(sSet 2 (gLst [(.nm 1)]))
def g_Going_go_from_3_1:SG:=(sSet 3 (gMut 2 [(.con (.int 0) (.int 0))] mPopAt))
def g_Going_go_from_3_2_1:SG:=(sSet 5 (gP2 kSubI (.val (gCall (kk1 kSum) [(.pk (gIx kIxA (.pk (gIx kIxA (.pk (gFld 0 "Going" "web")) (.con (.int 1) (.int 1)))) (.nm 4)))])) (.nm 3)))
def g_Going_go_from_3_2_2_t_1:SG:=(sPutL 0 [.fld "Going" "side"] (.nm 5) (gP2 kSubI (.con (.int 1) (.int 1)) (.pk (gIx kIxA (.pk (gFld 0 "Going" "side")) (.nm 3)))))
def g_Going_go_from_3_2_2_t_2:SG:=(sPutL 0 [.fld "Going" "came"] (.nm 5) (gTup [(.nm 4),(.nm 3)]))
def g_Going_go_from_3_2_2_t_3:SG:=(sDrop (gMut 2 [(.val (Opd.vg (.nm 5)))] mApp))
def g_Going_go_from_3_2_2_e_1_t_1:SG:=(sRet (Opd.vg (.nm 4)))
def g_Going_go_from_3_2_2_e_1:SG:=(sIf (gTest (gP2 (kEqv false) (.pk (gIx kIxA (.pk (gFld 0 "Going" "side")) (.nm 5))) (.pk (gIx kIxA (.pk (gFld 0 "Going" "side")) (.nm 3))))) g_Going_go_from_3_2_2_e_1_t_1 sPass)
def g_Going_go_from_3_2_2:SG:=(sIf (gTest (gP2 (kIn true) (.nm 5) (.pk (gFld 0 "Going" "side")))) (sSeq g_Going_go_from_3_2_2_t_1 (sSeq g_Going_go_from_3_2_2_t_2 g_Going_go_from_3_2_2_t_3)) g_Going_go_from_3_2_2_e_1)
def g_Going_go_from_3_2:SG:=(sFor [4,5] (gSeq (.pk (gIx kIxA (.pk (gFld 0 "Going" "by_place")) (.nm 3)))) (setS 4) (sSeq g_Going_go_from_3_2_1 g_Going_go_from_3_2_2))
def g_Going_go_from_3:SG:=(sWhile (gTest (gP2 kGtI (.val (gCall (kk1 kLenA) [(.nm 2)])) (.con (.int 0) (.int 0)))) (sSeq g_Going_go_from_3_1 g_Going_go_from_3_2))
def g_Going_go_from_4:SG:=(sRet (Opd.vg (.con .non .none)))
def g_Going_go_from:SG:=(sSeq g_Going_go_from_1 (sSeq g_Going_go_from_2 (sSeq g_Going_go_from_3 g_Going_go_from_4)))
def fn_Going_go_from:FnT:=fnOf 2 6 [2,3,4,5] g_Going_go_from
def N_Going_way_to:List Str:=["self","place","found","tie"]
def g_Going_way_to_1:SG:=(sSet 2 (gLst []))
def g_Going_way_to_2_1:SG:=(sAsg (setTup [(setS 3),(setS 1)]) (Opd.vg (.pk (gIx kIxA (.pk (gFld 0 "Going" "came")) (.nm 1)))))
def g_Going_way_to_2_2:SG:=(sDrop (gMut 2 [(.val (Opd.vg (.nm 3)))] mApp))
def g_Going_way_to_2:SG:=(sWhile (gTest (gP2 (kIn false) (.nm 1) (.pk (gFld 0 "Going" "came")))) (sSeq g_Going_way_to_2_1 g_Going_way_to_2_2))
def g_Going_way_to_3:SG:=(sRet (Opd.vg (.nm 2)))
def g_Going_way_to:SG:=(sSeq g_Going_way_to_1 (sSeq g_Going_way_to_2 g_Going_way_to_3))
def fn_Going_way_to:FnT:=fnOf 2 4 [2,3,1] g_Going_way_to
def N_Going_ring_by:List Str:=["self","tie","one","other","there","back"]
def g_Going_ring_by_1:SG:=(sAsg (setTup [(setS 2),(setS 3)]) (Opd.vg (.pk (gIx kIxA (.pk (gIx kIxA (.pk (gFld 0 "Going" "web")) (.con (.int 1) (.int 1)))) (.nm 1)))))
def g_Going_ring_by_2:SG:=(sPar [4,5] [(gOwn 0 "Going" "way_to" fn_Going_way_to [false] [(.nm 2)]),(gOwn 0 "Going" "way_to" fn_Going_way_to [false] [(.nm 3)])])
def g_Going_ring_by_3_1:SG:=(sDrop (gMut 4 [] mPop))
def g_Going_ring_by_3_2:SG:=(sDrop (gMut 5 [] mPop))
def g_Going_ring_by_3:SG:=(sWhile (gAndB (gTest (gP2 (kEqv true) (.nm 4) (.val (gLst [])))) (gAndB (gTest (gP2 (kEqv true) (.nm 5) (.val (gLst [])))) (gTest (gP2 (kEqv false) (.pk (gIx kIxA (.nm 4) (.val (gP1 kNeg (.con (.int 1) (.int 1)))))) (.pk (gIx kIxA (.nm 5) (.val (gP1 kNeg (.con (.int 1) (.int 1)))))))))) (sSeq g_Going_ring_by_3_1 g_Going_ring_by_3_2))
def g_Going_ring_by_4:SG:=(sRet (gP2 kAdd (.val (gP2 kAdd (.nm 4) (.val (gCall (kk1 kRevL) [(.nm 5)])))) (.val (gLst [(.nm 1)]))))
def g_Going_ring_by:SG:=(sSeq g_Going_ring_by_1 (sSeq g_Going_ring_by_2 (sSeq g_Going_ring_by_3 g_Going_ring_by_4)))
def fn_Going_ring_by:FnT:=fnOf 2 6 [2,3,4,5] g_Going_ring_by
def N_two_sides:List Str:=["web","going","place","tie"]
def g_two_sides_1:SG:=(sSet 1 (gUser (mkF "Going" fn_Going___init) [false] [(.nm 0)]))
def g_two_sides_2_1_t_1:SG:=(sSet 3 (gOwn 1 "Going" "go_from" fn_Going_go_from [false] [(.nm 2)]))
def g_two_sides_2_1_t_2_t_1:SG:=(sRet (gTup [(.con (.str "ring") (.str "ring")),(.val (gOwn 1 "Going" "ring_by" fn_Going_ring_by [false] [(.nm 3)]))]))
def g_two_sides_2_1_t_2:SG:=(sIf (gTest (gP2 (kIsN true) (.nm 3) (.con .non .none))) g_two_sides_2_1_t_2_t_1 sPass)
def g_two_sides_2_1:SG:=(sIf (gTest (gP2 (kIn true) (.nm 2) (.pk (gFld 1 "Going" "side")))) (sSeq g_two_sides_2_1_t_1 g_two_sides_2_1_t_2) sPass)
def g_two_sides_2:SG:=(sFor [2,3] (gOs [(.pk (gIx kIxA (.nm 0) (.con (.int 0) (.int 0))))] kRng1) (setS 2) g_two_sides_2_1)
def c_two_sides_1:G T:=(gLc [2] (gOs [(.pk (gIx kIxA (.nm 0) (.con (.int 0) (.int 0))))] kRng1) (setS 2) gYes (Opd.vg (.pk (gIx kIxA (.pk (gFld 1 "Going" "side")) (.nm 2)))))
def g_two_sides_3:SG:=(sRet (gTup [(.con (.str "sides") (.str "sides")),(.val c_two_sides_1)]))
def g_two_sides:SG:=(sSeq g_two_sides_1 (sSeq g_two_sides_2 g_two_sides_3))
def fn_two_sides:FnT:=fnOf 1 4 [1,2,3] g_two_sides
def N_are_sides:List Str:=["web","thing","told","side"]
def g_are_sides_1_t_1:SG:=(sRet (Opd.vg (.con (.bl false) (.bool false))))
def g_are_sides_1:SG:=(sIf (gOrB (gNotB (gTru (.val (gP1 (kIsi2 .list .tuple) (.nm 1))))) (gTest (gP2 (kEqv true) (.val (gCall (kk1 kLenA) [(.nm 1)])) (.pk (gIx kIxA (.nm 0) (.con (.int 0) (.int 0))))))) g_are_sides_1_t_1 sPass)
def c_are_sides_1:G T:=(gLc [3] (gSeq (.nm 1)) (setS 3) gYes (gAndV (gUser fn_is_number [false] [(.nm 3)]) (gChV (Opd.vg (.con (.int 0) (.int 0))) [fun i j => decide (i≤j),fun i j => decide (i≤j)] [gInt (Opd.vg (.nm 3)),gInt (Opd.vg (.con (.int 1) (.int 1)))])))
def g_are_sides_2_t_1:SG:=(sRet (Opd.vg (.con (.bl false) (.bool false))))
def g_are_sides_2:SG:=(sIf (gNotB (gTru (.val (gCall (kk1 kAll) [(.val c_are_sides_1)])))) g_are_sides_2_t_1 sPass)
def g_are_sides_3:SG:=(sSet 2 (gUser fn_two_sides [false] [(.nm 0)]))
def g_are_sides_4:SG:=(sRet (gAndV (gP2 (kEqv false) (.pk (gIx kIxA (.nm 2) (.con (.int 0) (.int 0)))) (.con (.str "sides") (.str "sides"))) (gP2 (kEqv false) (.val (gCall (kk1 kListOf) [(.nm 1)])) (.pk (gIx kIxA (.nm 2) (.con (.int 1) (.int 1)))))))
def g_are_sides:SG:=(sSeq g_are_sides_1 (sSeq g_are_sides_2 (sSeq g_are_sides_3 g_are_sides_4)))
def fn_are_sides:FnT:=fnOf 2 4 [2] g_are_sides
def N_goes_round:List Str:=["web","ties","place","met","tie"]
def g_goes_round_1:SG:=(sSet 3 (gLst []))
def g_goes_round_2_1_t_1:SG:=(sRet (Opd.vg (.con (.bl false) (.bool false))))
def g_goes_round_2_1:SG:=(sIf (gOrB (gTest (gP2 (kIn true) (.nm 2) (.pk (gIx kIxA (.pk (gIx kIxA (.nm 0) (.con (.int 1) (.int 1)))) (.nm 4))))) (gTest (gP2 (kIn false) (.nm 2) (.nm 3)))) g_goes_round_2_1_t_1 sPass)
def g_goes_round_2_2:SG:=(sDrop (gMut 3 [(.val (Opd.vg (.nm 2)))] mApp))
def g_goes_round_2_3:SG:=(sSet 2 (gP2 kSubI (.val (gCall (kk1 kSum) [(.pk (gIx kIxA (.pk (gIx kIxA (.nm 0) (.con (.int 1) (.int 1)))) (.nm 4)))])) (.nm 2)))
def g_goes_round_2:SG:=(sFor [4,2] (gSeq (.nm 1)) (setS 4) (sSeq g_goes_round_2_1 (sSeq g_goes_round_2_2 g_goes_round_2_3)))
def g_goes_round_3:SG:=(sRet (gP2 (kEqv false) (.nm 2) (.pk (gIx kIxA (.nm 3) (.con (.int 0) (.int 0))))))
def g_goes_round:SG:=(sSeq g_goes_round_1 (sSeq g_goes_round_2 g_goes_round_3))
def fn_goes_round:FnT:=fnOf 3 5 [3,4,2] g_goes_round
def N_is_ring:List Str:=["web","thing","place","tie"]
def g_is_ring_1_t_1:SG:=(sRet (Opd.vg (.con (.bl false) (.bool false))))
def g_is_ring_1:SG:=(sIf (gOrB (gNotB (gTru (.val (gP1 (kIsi2 .list .tuple) (.nm 1))))) (gOrB (gTest (gP2 kLtI (.val (gCall (kk1 kLenA) [(.nm 1)])) (.con (.int 3) (.int 3)))) (gTest (gP2 (kEqv false) (.val (gP2 kModI (.val (gCall (kk1 kLenA) [(.nm 1)])) (.con (.int 2) (.int 2)))) (.con (.int 0) (.int 0)))))) g_is_ring_1_t_1 sPass)
def c_is_ring_1:G T:=(gLc [3] (gSeq (.nm 1)) (setS 3) gYes (gAndV (gUser fn_is_number [false] [(.nm 3)]) (gChV (Opd.vg (.con (.int 0) (.int 0))) [fun i j => decide (i≤j),fun i j => decide (i < j)] [gInt (Opd.vg (.nm 3)),gInt (gCall (kk1 kLenA) [(.pk (gIx kIxA (.nm 0) (.con (.int 1) (.int 1))))])])))
def g_is_ring_2_t_1:SG:=(sRet (Opd.vg (.con (.bl false) (.bool false))))
def g_is_ring_2:SG:=(sIf (gNotB (gTru (.val (gCall (kk1 kAll) [(.val c_is_ring_1)])))) g_is_ring_2_t_1 sPass)
def c_is_ring_2:G T:=(gLc [2] (gSeq (.pk (gIx kIxA (.pk (gIx kIxA (.nm 0) (.con (.int 1) (.int 1)))) (.pk (gIx kIxA (.nm 1) (.con (.int 0) (.int 0))))))) (setS 2) gYes (gUser fn_goes_round [false,false,false] [(.nm 0),(.nm 1),(.nm 2)]))
def g_is_ring_3:SG:=(sRet (gCall (kk1 kAny) [(.val c_is_ring_2)]))
def g_is_ring:SG:=(sSeq g_is_ring_1 (sSeq g_is_ring_2 g_is_ring_3))
def fn_is_ring:FnT:=fnOf 2 4 [] g_is_ring
def N_shows_sides:List Str:=["web","thing"]
def g_shows_sides_1_t_1:SG:=(sRet (Opd.vg (.con (.bl false) (.bool false))))
def g_shows_sides_1:SG:=(sIf (gOrB (gNotB (gTru (.val (gP1 (kIsi .tuple) (.nm 1))))) (gOrB (gTest (gP2 (kEqv true) (.val (gCall (kk1 kLenA) [(.nm 1)])) (.con (.int 2) (.int 2)))) (gNotB (gTru (.val (gP1 (kIsi .str) (.pk (gIx kIxA (.nm 1) (.con (.int 0) (.int 0)))))))))) g_shows_sides_1_t_1 sPass)
def g_shows_sides_2_t_1:SG:=(sRet (gUser fn_are_sides [false,false] [(.nm 0),(.val (Opd.vg (.pk (gIx kIxA (.nm 1) (.con (.int 1) (.int 1))))))]))
def g_shows_sides_2:SG:=(sIf (gTest (gP2 (kEqv false) (.pk (gIx kIxA (.nm 1) (.con (.int 0) (.int 0)))) (.con (.str "sides") (.str "sides")))) g_shows_sides_2_t_1 sPass)
def g_shows_sides_3:SG:=(sRet (gAndV (gP2 (kEqv false) (.pk (gIx kIxA (.nm 1) (.con (.int 0) (.int 0)))) (.con (.str "ring") (.str "ring"))) (gUser fn_is_ring [false,false] [(.nm 0),(.val (Opd.vg (.pk (gIx kIxA (.nm 1) (.con (.int 1) (.int 1))))))])))
def g_shows_sides:SG:=(sSeq g_shows_sides_1 (sSeq g_shows_sides_2 g_shows_sides_3))
def fn_shows_sides:FnT:=fnOf 2 2 [] g_shows_sides
def N_law_tape:List Str:=["_law_script","_law_k","_law_cell","_law_digits"]
def g_law_tape_1:SG:=(sSet 2 (Opd.vg (.con (.int 0) (.int 0))))
def g_law_tape_2_t_1:SG:=(sSet 2 (Opd.vg (.pk (gIx kIxA (.nm 0) (.nm 1)))))
def g_law_tape_2:SG:=(sIf (gTest (gP2 kLtI (.nm 1) (.val (gCall (kk1 kLenA) [(.nm 0)])))) g_law_tape_2_t_1 sPass)
def g_law_tape_3:SG:=(sSet 3 (gP2 kMul (.val (gCall (kk1 kAbs) [(.nm 2)])) (.val (gCall (kk1 kInt1) [(.val (gP2 kGeI (.val (gCall (kk1 kAbs) [(.nm 2)])) (.val (gP2 kPowI (.con (.int 10) (.int 10)) (.con (.int 18) (.int 18))))))]))))
def g_law_tape_4:SG:=(sRet (gLst [(.nm 3),(.val (gP2 kModI (.val (gP2 kMul (.val (gP2 kModI (.val (gP2 kAdd (.val (gP2 kAdd (.nm 2) (.val (gP2 kMul (.con (.int 7919) (.int 7919)) (.nm 1))))) (.con (.int 1) (.int 1)))) (.con (.int 2147483647) (.int 2147483647)))) (.con (.int 48271) (.int 48271)))) (.con (.int 2147483647) (.int 2147483647))))]))
def g_law_tape:SG:=(sSeq g_law_tape_1 (sSeq g_law_tape_2 (sSeq g_law_tape_3 g_law_tape_4)))
def fn_law_tape:FnT:=fnOf 2 4 [2,2,3] g_law_tape
def N_law_draw:List Str:=["_law_tape_here","_law_many","_law_once","_law_found"]
def g_law_draw_1_t_1:SG:=(sSet 3 (gP2 kModI (.pk (gIx kIxA (.nm 0) (.con (.int 0) (.int 0)))) (.nm 1)))
def g_law_draw_1_t_2:SG:=(sPutA 0 (.con (.int 0) (.int 0)) (gP2 kDivI (.pk (gIx kIxA (.nm 0) (.con (.int 0) (.int 0)))) (.nm 1)))
def g_law_draw_1_t_3:SG:=(sRet (Opd.vg (.nm 3)))
def g_law_draw_1:SG:=(sIf (gTest (gP2 kGtI (.pk (gIx kIxA (.nm 0) (.con (.int 0) (.int 0)))) (.con (.int 0) (.int 0)))) (sSeq g_law_draw_1_t_1 (sSeq g_law_draw_1_t_2 g_law_draw_1_t_3)) sPass)
def g_law_draw_2:SG:=(sPutA 0 (.con (.int 1) (.int 1)) (gP2 kModI (.val (gP2 kAdd (.val (gP2 kMul (.pk (gIx kIxA (.nm 0) (.con (.int 1) (.int 1)))) (.con (.int 48271) (.int 48271)))) (.con (.int 12345) (.int 12345)))) (.con (.int 2147483647) (.int 2147483647))))
def g_law_draw_3:SG:=(sSet 2 (gP2 kModI (.val (gP2 kMul (.pk (gIx kIxA (.nm 0) (.con (.int 1) (.int 1)))) (.val (gP2 kAdd (.val (gP2 kModI (.pk (gIx kIxA (.nm 0) (.con (.int 1) (.int 1)))) (.con (.int 1009) (.int 1009)))) (.con (.int 3) (.int 3)))))) (.con (.int 2147483629) (.int 2147483629))))
def g_law_draw_4:SG:=(sRet (gP2 kModI (.val (gP2 kModI (.val (gP2 kMul (.nm 2) (.val (gP2 kAdd (.val (gP2 kModI (.nm 2) (.con (.int 997) (.int 997)))) (.con (.int 5) (.int 5)))))) (.con (.int 998244353) (.int 998244353)))) (.nm 1)))
def g_law_draw:SG:=(sSeq g_law_draw_1 (sSeq g_law_draw_2 (sSeq g_law_draw_3 g_law_draw_4)))
def fn_law_draw:FnT:=fnOf 2 4 [3,2] g_law_draw
def N_law_pairs_by:List Str:=["_law_tape_here","_law_great","_law_way","_law_many","_law_found","_law_turn","_law_k","_law_sides_here","_law_one","_law_j"]
def g_law_pairs_by_1:SG:=(sSet 2 (gUser fn_law_draw [true,false] [(.nm 0),(.con (.int 8) (.int 8))]))
def g_law_pairs_by_2:SG:=(sSet 3 (gIx kIxA (.val (gLst [(.val (gUser fn_law_draw [true,false] [(.nm 0),(.con (.int 7) (.int 7))])),(.val (gP2 kAdd (.con (.int 7) (.int 7)) (.val (gUser fn_law_draw [true,false] [(.nm 0),(.con (.int 6) (.int 6))]))))])) (.val (gCall (kk1 kInt1) [(.nm 1)]))))
def g_law_pairs_by_3:SG:=(sSet 4 (gLst []))
def g_law_pairs_by_4_t_1_1:SG:=(sSet 8 (gUser fn_law_draw [true,false] [(.nm 0),(.nm 3)]))
def g_law_pairs_by_4_t_1_2:SG:=(sDrop (gMut 4 [(.val (gTup [(.nm 8),(.val (gP2 kModI (.val (gP2 kAdd (.val (gP2 kAdd (.nm 8) (.con (.int 1) (.int 1)))) (.val (gUser fn_law_draw [true,false] [(.nm 0),(.val (gP2 kSubI (.nm 3) (.con (.int 1) (.int 1))))])))) (.nm 3)))]))] mApp))
def g_law_pairs_by_4_t_1:SG:=(sFor [5,8] (gOs [(.val (gUser fn_law_draw [true,false] [(.nm 0),(.val (gP2 kAdd (.val (gP2 kMul (.con (.int 2) (.int 2)) (.nm 3))) (.con (.int 1) (.int 1))))]))] kRng1) (setS 5) (sSeq g_law_pairs_by_4_t_1_1 g_law_pairs_by_4_t_1_2))
def g_law_pairs_by_4:SG:=(sIf (gAndB (gTest (gP2 kLtI (.nm 2) (.con (.int 3) (.int 3)))) (gTest (gP2 kGtI (.nm 3) (.con (.int 1) (.int 1))))) g_law_pairs_by_4_t_1 sPass)
def c_law_pairs_by_1:G T:=(gLc [6] (gOs [(.nm 3)] kRng1) (setS 6) gYes (gTup [(.nm 6),(.val (gP2 kModI (.val (gP2 kAdd (.nm 6) (.con (.int 1) (.int 1)))) (.nm 3)))]))
def g_law_pairs_by_5_t_1:SG:=(sSet 4 (gP2 kAdd (.val c_law_pairs_by_1) (.val (gLst [(.val (gTup [(.con (.int 0) (.int 0)),(.val (gP2 kAdd (.val (gUser fn_law_draw [true,false] [(.nm 0),(.val (gP2 kSubI (.nm 3) (.con (.int 1) (.int 1))))])) (.con (.int 1) (.int 1))))]))]))))
def g_law_pairs_by_5:SG:=(sIf (gAndB (gTest (gP2 (kEqv false) (.nm 2) (.con (.int 3) (.int 3)))) (gTest (gP2 kGtI (.nm 3) (.con (.int 2) (.int 2))))) g_law_pairs_by_5_t_1 sPass)
def c_law_pairs_by_2:G T:=(gLc [6] (gOs [(.con (.int 1) (.int 1)),(.nm 3)] kRng2) (setS 6) gYes (gTup [(.con (.int 0) (.int 0)),(.nm 6)]))
def g_law_pairs_by_6_t_1:SG:=(sSet 4 c_law_pairs_by_2)
def g_law_pairs_by_6:SG:=(sIf (gAndB (gTest (gP2 (kEqv false) (.nm 2) (.con (.int 4) (.int 4)))) (gTest (gP2 kGtI (.nm 3) (.con (.int 1) (.int 1))))) g_law_pairs_by_6_t_1 sPass)
def g_law_pairs_by_7_t_1:SG:=(sSet 3 (gCall (kk2 kMin2) [(.nm 3),(.val (gP2 kAdd (.con (.int 5) (.int 5)) (.val (gCall (kk1 kInt1) [(.nm 1)]))))]))
def c_law_pairs_by_3:G T:=(gLc [9] (gOs [(.nm 6)] kRng1) (setS 9) gYes (gTup [(.nm 9),(.nm 6)]))
def g_law_pairs_by_7_t_2_1:SG:=(sDrop (gMut 4 [(.val c_law_pairs_by_3)] mExt))
def g_law_pairs_by_7_t_2:SG:=(sFor [6] (gOs [(.nm 3)] kRng1) (setS 6) g_law_pairs_by_7_t_2_1)
def g_law_pairs_by_7:SG:=(sIf (gTest (gP2 (kEqv false) (.nm 2) (.con (.int 5) (.int 5)))) (sSeq g_law_pairs_by_7_t_1 g_law_pairs_by_7_t_2) sPass)
def g_law_pairs_by_8_t_1:SG:=(sSet 7 (gP2 kAdd (.con (.int 1) (.int 1)) (.val (gP2 kDivI (.nm 3) (.con (.int 2) (.int 2))))))
def c_law_pairs_by_4:G T:=(gLc [9] (gOs [(.nm 7),(.nm 3)] kRng2) (setS 9) (gTest (gP2 kGtI (.val (gUser fn_law_draw [true,false] [(.nm 0),(.con (.int 3) (.int 3))])) (.con (.int 0) (.int 0)))) (gTup [(.nm 6),(.nm 9)]))
def g_law_pairs_by_8_t_2_1:SG:=(sDrop (gMut 4 [(.val c_law_pairs_by_4)] mExt))
def g_law_pairs_by_8_t_2:SG:=(sFor [6] (gOs [(.nm 7)] kRng1) (setS 6) g_law_pairs_by_8_t_2_1)
def g_law_pairs_by_8:SG:=(sIf (gTest (gP2 (kEqv false) (.nm 2) (.con (.int 6) (.int 6)))) (sSeq g_law_pairs_by_8_t_1 g_law_pairs_by_8_t_2) sPass)
def g_law_pairs_by_9_t_1:SG:=(sSet 3 (gP2 kAdd (.con (.int 3) (.int 3)) (.val (gP2 kDivI (.nm 3) (.con (.int 3) (.int 3))))))
def g_law_pairs_by_9_t_2_1:SG:=(sDrop (gMut 4 [(.val (gP2 kMul (.val (gLst [(.val (gTup [(.nm 6),(.val (gP2 kModI (.val (gP2 kAdd (.nm 6) (.con (.int 1) (.int 1)))) (.con (.int 3) (.int 3))))]))])) (.val (gP2 kAdd (.con (.int 1) (.int 1)) (.val (gUser fn_law_draw [true,false] [(.nm 0),(.con (.int 3) (.int 3))]))))))] mExt))
def g_law_pairs_by_9_t_2:SG:=(sFor [6] (gOs [(.con (.int 3) (.int 3))] kRng1) (setS 6) g_law_pairs_by_9_t_2_1)
def g_law_pairs_by_9:SG:=(sIf (gTest (gP2 (kEqv false) (.nm 2) (.con (.int 7) (.int 7)))) (sSeq g_law_pairs_by_9_t_1 g_law_pairs_by_9_t_2) sPass)
def g_law_pairs_by_10:SG:=(sRet (gTup [(.nm 3),(.nm 4)]))
def g_law_pairs_by:SG:=(sSeq g_law_pairs_by_1 (sSeq g_law_pairs_by_2 (sSeq g_law_pairs_by_3 (sSeq g_law_pairs_by_4 (sSeq g_law_pairs_by_5 (sSeq g_law_pairs_by_6 (sSeq g_law_pairs_by_7 (sSeq g_law_pairs_by_8 (sSeq g_law_pairs_by_9 g_law_pairs_by_10)))))))))
def fn_law_pairs_by:FnT:=fnOf 2 10 [2,3,4,5,8,4,4,3,6,7,6,3,6] g_law_pairs_by
def N_law_web:List Str:=["_law_tape_here","_law_great","_law_ties","_law_many","_law_pairs","_law_one","_law_other","_law_turn"]
def g_law_web_1:SG:=(sAsg (setTup [(setS 3),(setS 4)]) (gUser fn_law_pairs_by [true,false] [(.nm 0),(.nm 1)]))
def g_law_web_2_t_1:SG:=(sAsg (setTup [(setS 3),(setS 4)]) (gUser fn_law_pairs_by [true,false] [(.nm 0),(.nm 1)]))
def g_law_web_2:SG:=(sIf (gTest (gP2 (kEqv false) (.nm 4) (.val (gLst [])))) g_law_web_2_t_1 sPass)
def c_law_web_1:G T:=(gLc [7] (gOs [(.val (gP2 kAdd (.con (.int 1) (.int 1)) (.val (gUser fn_law_draw [true,false] [(.nm 0),(.con (.int 3) (.int 3))]))))] kRng1) (setS 7) gYes (Opd.vg (.pk (gIx kIxA (.nm 4) (.val (gUser fn_law_draw [true,false] [(.nm 0),(.val (gCall (kk1 kLenA) [(.nm 4)]))]))))))
def g_law_web_3_t_1:SG:=(sSet 4 (gP2 kAdd (.nm 4) (.val c_law_web_1)))
def g_law_web_3:SG:=(sIf (gAndB (gTest (gP2 (kEqv true) (.nm 4) (.val (gLst [])))) (gTest (gP2 (kEqv false) (.val (gUser fn_law_draw [true,false] [(.nm 0),(.con (.int 4) (.int 4))])) (.con (.int 0) (.int 0))))) g_law_web_3_t_1 sPass)
def g_law_web_4:SG:=(sSet 2 (gLst []))
def g_law_web_5_1:SG:=(sDrop (gMut 2 [(.val (gUser fn_law_draw [true,false] [(.nm 0),(.val (gP2 kAdd (.val (gCall (kk1 kLenA) [(.nm 2)])) (.con (.int 1) (.int 1))))])),(.val (gTup [(.val (gCall (kk2 kMin2) [(.nm 5),(.nm 6)])),(.val (gCall (kk2 kMax2) [(.nm 5),(.nm 6)]))]))] mIns))
def g_law_web_5:SG:=(sFor [5,6] (gSeq (.nm 4)) (setTup [(setS 5),(setS 6)]) g_law_web_5_1)
def g_law_web_6:SG:=(sRet (gTup [(.nm 3),(.val (gCall (kk1 kTupOf) [(.nm 2)]))]))
def g_law_web:SG:=(sSeq g_law_web_1 (sSeq g_law_web_2 (sSeq g_law_web_3 (sSeq g_law_web_4 (sSeq g_law_web_5 g_law_web_6)))))
def fn_law_web:FnT:=fnOf 2 8 [3,4,3,4,4,2,5,6] g_law_web
def N_law_drawn:List Str:=["_law_tape_here","_law_great","_law_many","_law_left","_law_names","_law_pairs","_law_ties","_law_one","_law_other","_law_pair","_law_k"]
def g_law_drawn_1_t_1:SG:=(sRet (gUser fn_law_web [true,false] [(.nm 0),(.nm 1)]))
def g_law_drawn_1:SG:=(sIf (gTest (gP2 kGtI (.val (gUser fn_law_draw [true,false] [(.nm 0),(.con (.int 4) (.int 4))])) (.con (.int 0) (.int 0)))) g_law_drawn_1_t_1 sPass)
def g_law_drawn_2:SG:=(sSet 2 (gP2 kAdd (.con (.int 3) (.int 3)) (.val (gUser fn_law_draw [true,false] [(.nm 0),(.val (gP2 kAdd (.con (.int 5) (.int 5)) (.val (gP2 kMul (.con (.int 4) (.int 4)) (.val (gCall (kk1 kInt1) [(.nm 1)]))))))]))))
def g_law_drawn_3:SG:=(sSet 3 (gCall kLr1 [(.val (gP2 kAdd (.nm 2) (.con (.int 2) (.int 2))))]))
def g_law_drawn_4:SG:=(sSet 4 (gLst []))
def g_law_drawn_5_1:SG:=(sDrop (gMut 4 [(.val (gMut 3 [(.val (gUser fn_law_draw [true,false] [(.nm 0),(.val (gCall (kk1 kLenA) [(.nm 3)]))]))] mPopAt))] mApp))
def g_law_drawn_5:SG:=(sWhile (gTest (gP2 (kEqv true) (.nm 3) (.val (gLst [])))) g_law_drawn_5_1)
def c_law_drawn_1:G T:=(gLc [10] (gOs [(.nm 2)] kRng1) (setS 10) gYes (gTup [(.nm 10),(.val (gP2 kModI (.val (gP2 kAdd (.nm 10) (.con (.int 1) (.int 1)))) (.nm 2)))]))
def g_law_drawn_6:SG:=(sSet 5 (gP2 kAdd (.val c_law_drawn_1) (.val (gLst [(.val (gTup [(.nm 2),(.val (gUser fn_law_draw [true,false] [(.nm 0),(.nm 2)]))])),(.val (gTup [(.nm 2),(.val (gP2 kAdd (.nm 2) (.con (.int 1) (.int 1))))]))]))))
def g_law_drawn_7:SG:=(sSet 6 (gLst []))
def g_law_drawn_8_1:SG:=(sSet 9 (gTup [(.val (gCall (kk2 kMin2) [(.pk (gIx kIxA (.nm 4) (.nm 7))),(.pk (gIx kIxA (.nm 4) (.nm 8)))])),(.val (gCall (kk2 kMax2) [(.pk (gIx kIxA (.nm 4) (.nm 7))),(.pk (gIx kIxA (.nm 4) (.nm 8)))]))]))
def g_law_drawn_8_2:SG:=(sDrop (gMut 6 [(.val (gUser fn_law_draw [true,false] [(.nm 0),(.val (gP2 kAdd (.val (gCall (kk1 kLenA) [(.nm 6)])) (.con (.int 1) (.int 1))))])),(.val (Opd.vg (.nm 9)))] mIns))
def g_law_drawn_8:SG:=(sFor [7,8,9] (gSeq (.nm 5)) (setTup [(setS 7),(setS 8)]) (sSeq g_law_drawn_8_1 g_law_drawn_8_2))
def g_law_drawn_9:SG:=(sRet (gTup [(.val (gP2 kAdd (.nm 2) (.con (.int 2) (.int 2)))),(.val (gCall (kk1 kTupOf) [(.nm 6)]))]))
def g_law_drawn:SG:=(sSeq g_law_drawn_1 (sSeq g_law_drawn_2 (sSeq g_law_drawn_3 (sSeq g_law_drawn_4 (sSeq g_law_drawn_5 (sSeq g_law_drawn_6 (sSeq g_law_drawn_7 (sSeq g_law_drawn_8 g_law_drawn_9))))))))
def fn_law_drawn:FnT:=fnOf 2 11 [2,3,4,5,6,7,8,9] g_law_drawn
def N_law_sides:List Str:=["_law_web_here","_law_sides_here","_law_place","_law_turn","_law_one","_law_other"]
def g_law_sides_1:SG:=(sSet 1 (gP2 kMul (.val (gLst [(.con .non .none)])) (.pk (gIx kIxA (.nm 0) (.con (.int 0) (.int 0))))))
def g_law_sides_2_1_t_1:SG:=(sPutA 1 (.nm 2) (Opd.vg (.con (.int 0) (.int 0))))
def g_law_sides_2_1_t_2_1_1_t_1:SG:=(sPutA 1 (.nm 5) (gP2 kSubI (.con (.int 1) (.int 1)) (.pk (gIx kIxA (.nm 1) (.nm 4)))))
def g_law_sides_2_1_t_2_1_1:SG:=(sIf (gAndB (gTest (gP2 (kIsN true) (.pk (gIx kIxA (.nm 1) (.nm 4))) (.con .non .none))) (gTest (gP2 (kIsN false) (.pk (gIx kIxA (.nm 1) (.nm 5))) (.con .non .none)))) g_law_sides_2_1_t_2_1_1_t_1 sPass)
def g_law_sides_2_1_t_2_1_2_t_1:SG:=(sPutA 1 (.nm 4) (gP2 kSubI (.con (.int 1) (.int 1)) (.pk (gIx kIxA (.nm 1) (.nm 5)))))
def g_law_sides_2_1_t_2_1_2:SG:=(sIf (gAndB (gTest (gP2 (kIsN true) (.pk (gIx kIxA (.nm 1) (.nm 5))) (.con .non .none))) (gTest (gP2 (kIsN false) (.pk (gIx kIxA (.nm 1) (.nm 4))) (.con .non .none)))) g_law_sides_2_1_t_2_1_2_t_1 sPass)
def g_law_sides_2_1_t_2_1:SG:=(sFor [4,5] (gSeq (.pk (gIx kIxA (.nm 0) (.con (.int 1) (.int 1))))) (setTup [(setS 4),(setS 5)]) (sSeq g_law_sides_2_1_t_2_1_1 g_law_sides_2_1_t_2_1_2))
def g_law_sides_2_1_t_2:SG:=(sFor [3,4,5] (gOs [(.pk (gIx kIxA (.nm 0) (.con (.int 0) (.int 0))))] kRng1) (setS 3) g_law_sides_2_1_t_2_1)
def g_law_sides_2_1:SG:=(sIf (gTest (gP2 (kIsN false) (.pk (gIx kIxA (.nm 1) (.nm 2))) (.con .non .none))) (sSeq g_law_sides_2_1_t_1 g_law_sides_2_1_t_2) sPass)
def g_law_sides_2:SG:=(sFor [2,3,4,5] (gOs [(.pk (gIx kIxA (.nm 0) (.con (.int 0) (.int 0))))] kRng1) (setS 2) g_law_sides_2_1)
def c_law_sides_1:G T:=(gLc [4,5] (gSeq (.pk (gIx kIxA (.nm 0) (.con (.int 1) (.int 1))))) (setTup [(setS 4),(setS 5)]) gYes (gP2 (kEqv false) (.pk (gIx kIxA (.nm 1) (.nm 4))) (.pk (gIx kIxA (.nm 1) (.nm 5)))))
def g_law_sides_3_t_1:SG:=(sRet (Opd.vg (.con .non .none)))
def g_law_sides_3:SG:=(sIf (gTru (.val (gCall (kk1 kAny) [(.val c_law_sides_1)]))) g_law_sides_3_t_1 sPass)
def g_law_sides_4:SG:=(sRet (Opd.vg (.nm 1)))
def g_law_sides:SG:=(sSeq g_law_sides_1 (sSeq g_law_sides_2 (sSeq g_law_sides_3 g_law_sides_4)))
def fn_law_sides:FnT:=fnOf 1 6 [1,2,3,4,5] g_law_sides
def N_law_goes_round:List Str:=["_law_web_here","_law_ties","_law_begin","_law_met","_law_here","_law_tie","_law_one","_law_other"]
def g_law_goes_round_1:SG:=(sSet 3 (gLst []))
def g_law_goes_round_2:SG:=(sSet 4 (Opd.vg (.nm 2)))
def g_law_goes_round_3_1:SG:=(sAsg (setTup [(setS 6),(setS 7)]) (Opd.vg (.pk (gIx kIxA (.pk (gIx kIxA (.nm 0) (.con (.int 1) (.int 1)))) (.nm 5)))))
def g_law_goes_round_3_2_t_1:SG:=(sRet (Opd.vg (.con (.bl false) (.bool false))))
def g_law_goes_round_3_2:SG:=(sIf (gOrB (gTest (gP2 (kIn true) (.nm 4) (.val (gTup [(.nm 6),(.nm 7)])))) (gTest (gP2 (kIn false) (.nm 4) (.nm 3)))) g_law_goes_round_3_2_t_1 sPass)
def g_law_goes_round_3_3:SG:=(sDrop (gMut 3 [(.val (Opd.vg (.nm 4)))] mApp))
def g_law_goes_round_3_4:SG:=(sSet 4 (gIf (gTest (gP2 (kEqv false) (.nm 4) (.nm 6))) (Opd.vg (.nm 7)) (Opd.vg (.nm 6))))
def g_law_goes_round_3:SG:=(sFor [5,6,7,4] (gSeq (.nm 1)) (setS 5) (sSeq g_law_goes_round_3_1 (sSeq g_law_goes_round_3_2 (sSeq g_law_goes_round_3_3 g_law_goes_round_3_4))))
def g_law_goes_round_4:SG:=(sRet (gP2 (kEqv false) (.nm 4) (.nm 2)))
def g_law_goes_round:SG:=(sSeq g_law_goes_round_1 (sSeq g_law_goes_round_2 (sSeq g_law_goes_round_3 g_law_goes_round_4)))
def fn_law_goes_round:FnT:=fnOf 3 8 [3,4,5,6,7,4] g_law_goes_round
def N_law_is_ring:List Str:=["_law_web_here","_law_ties","_law_begin"]
def g_law_is_ring_1_t_1:SG:=(sRet (Opd.vg (.con (.bl false) (.bool false))))
def g_law_is_ring_1:SG:=(sIf (gOrB (gTest (gP2 kLtI (.val (gCall (kk1 kLenA) [(.nm 1)])) (.con (.int 3) (.int 3)))) (gTest (gP2 (kEqv false) (.val (gP2 kModI (.val (gCall (kk1 kLenA) [(.nm 1)])) (.con (.int 2) (.int 2)))) (.con (.int 0) (.int 0))))) g_law_is_ring_1_t_1 sPass)
def c_law_is_ring_1:G T:=(gLc [2] (gSeq (.pk (gIx kIxA (.pk (gIx kIxA (.nm 0) (.con (.int 1) (.int 1)))) (.pk (gIx kIxA (.nm 1) (.con (.int 0) (.int 0))))))) (setS 2) gYes (gUser fn_law_goes_round [false,false,false] [(.nm 0),(.nm 1),(.nm 2)]))
def g_law_is_ring_2:SG:=(sRet (gCall (kk1 kAny) [(.val c_law_is_ring_1)]))
def g_law_is_ring:SG:=(sSeq g_law_is_ring_1 g_law_is_ring_2)
def fn_law_is_ring:FnT:=fnOf 2 3 [] g_law_is_ring
def N_law_ring_of:List Str:=["_law_tape_here","_law_web_here","_law_here","_law_turn","_law_met","_law_ties","_law_some","_law_tie","_law_one","_law_other"]
def g_law_ring_of_1_t_1:SG:=(sRet (gLst []))
def g_law_ring_of_1:SG:=(sIf (gTest (gP2 (kEqv false) (.pk (gIx kIxA (.nm 1) (.con (.int 1) (.int 1)))) (.val (gTup [])))) g_law_ring_of_1_t_1 sPass)
def g_law_ring_of_2:SG:=(sSet 2 (Opd.vg (.pk (gIx kIxA (.pk (gIx kIxA (.pk (gIx kIxA (.nm 1) (.con (.int 1) (.int 1)))) (.val (gUser fn_law_draw [true,false] [(.nm 0),(.val (gCall (kk1 kLenA) [(.pk (gIx kIxA (.nm 1) (.con (.int 1) (.int 1))))]))])))) (.val (gUser fn_law_draw [true,false] [(.nm 0),(.con (.int 2) (.int 2))]))))))
def g_law_ring_of_3:SG:=(sAsg (setTup [(setS 4),(setS 5)]) (gTup [(.val (gLst [(.nm 2)])),(.val (gLst []))]))
def c_law_ring_of_1:G T:=(gLc [7] (gOs [(.val (gCall (kk1 kLenA) [(.pk (gIx kIxA (.nm 1) (.con (.int 1) (.int 1))))]))] kRng1) (setS 7) (gAndB (gTest (gP2 (kIn false) (.nm 2) (.pk (gIx kIxA (.pk (gIx kIxA (.nm 1) (.con (.int 1) (.int 1)))) (.nm 7))))) (gTest (gP2 (kIn true) (.nm 7) (.nm 5)))) (Opd.vg (.nm 7)))
def g_law_ring_of_4_1:SG:=(sSet 6 c_law_ring_of_1)
def g_law_ring_of_4_2_t_1:SG:=(sSet 7 (Opd.vg (.pk (gIx kIxA (.nm 6) (.val (gUser fn_law_draw [true,false] [(.nm 0),(.val (gCall (kk1 kLenA) [(.nm 6)]))]))))))
def g_law_ring_of_4_2_t_2:SG:=(sAsg (setTup [(setS 8),(setS 9)]) (Opd.vg (.pk (gIx kIxA (.pk (gIx kIxA (.nm 1) (.con (.int 1) (.int 1)))) (.nm 7)))))
def g_law_ring_of_4_2_t_3:SG:=(sSet 2 (gIf (gTest (gP2 (kEqv false) (.nm 2) (.nm 8))) (Opd.vg (.nm 9)) (Opd.vg (.nm 8))))
def g_law_ring_of_4_2_t_4:SG:=(sDrop (gMut 5 [(.val (Opd.vg (.nm 7)))] mApp))
def g_law_ring_of_4_2_t_5_t_1:SG:=(sRet (gOs [(.nm 5),.iv (gMeth (.nm 4) [(.nm 2)] (kk2 (kFind fIndex)))] (kP (kk3l kCut))))
def g_law_ring_of_4_2_t_5:SG:=(sIf (gTest (gP2 (kIn false) (.nm 2) (.nm 4))) g_law_ring_of_4_2_t_5_t_1 sPass)
def g_law_ring_of_4_2_t_6:SG:=(sDrop (gMut 4 [(.val (Opd.vg (.nm 2)))] mApp))
def g_law_ring_of_4_2:SG:=(sIf (gTest (gP2 (kEqv true) (.nm 6) (.val (gLst [])))) (sSeq g_law_ring_of_4_2_t_1 (sSeq g_law_ring_of_4_2_t_2 (sSeq g_law_ring_of_4_2_t_3 (sSeq g_law_ring_of_4_2_t_4 (sSeq g_law_ring_of_4_2_t_5 g_law_ring_of_4_2_t_6))))) sPass)
def g_law_ring_of_4:SG:=(sFor [3,6,7,8,9,2] (gOs [(.pk (gIx kIxA (.nm 1) (.con (.int 0) (.int 0))))] kRng1) (setS 3) (sSeq g_law_ring_of_4_1 g_law_ring_of_4_2))
def g_law_ring_of_5:SG:=(sRet (gLst []))
def g_law_ring_of:SG:=(sSeq g_law_ring_of_1 (sSeq g_law_ring_of_2 (sSeq g_law_ring_of_3 (sSeq g_law_ring_of_4 g_law_ring_of_5))))
def fn_law_ring_of:FnT:=fnOf 2 10 [2,4,5,3,6,7,8,9,2] g_law_ring_of
def N_law_whole:List Str:=["_law_thing"]
def g_law_whole_1:SG:=(sRet (gAndV (gP1 (kIsi .int) (.nm 0)) (gP1 kNot (.val (gP1 (kIsi .bool) (.nm 0))))))
def g_law_whole:SG:=g_law_whole_1
def fn_law_whole:FnT:=fnOf 1 1 [] g_law_whole
def N_law_due:List Str:=["_law_web_here","_law_thing","_law_one","_law_tie"]
def g_law_due_1_t_1:SG:=(sRet (Opd.vg (.con (.bl false) (.bool false))))
def g_law_due_1:SG:=(sIf (gOrB (gNotB (gTru (.val (gP1 (kIsi .tuple) (.nm 1))))) (gOrB (gTest (gP2 (kEqv true) (.val (gCall (kk1 kLenA) [(.nm 1)])) (.con (.int 2) (.int 2)))) (gNotB (gTru (.val (gP1 (kIsi .str) (.pk (gIx kIxA (.nm 1) (.con (.int 0) (.int 0)))))))))) g_law_due_1_t_1 sPass)
def c_law_due_1:G T:=(gLc [2] (gSeq (.pk (gIx kIxA (.nm 1) (.con (.int 1) (.int 1))))) (setS 2) gYes (gUser fn_law_whole [false] [(.nm 2)]))
def g_law_due_2_t_1:SG:=(sRet (Opd.vg (.con (.bl false) (.bool false))))
def g_law_due_2:SG:=(sIf (gOrB (gNotB (gTru (.val (gP1 (kIsi2 .list .tuple) (.pk (gIx kIxA (.nm 1) (.con (.int 1) (.int 1)))))))) (gNotB (gTru (.val (gCall (kk1 kAll) [(.val c_law_due_1)]))))) g_law_due_2_t_1 sPass)
def g_law_due_3_t_1:SG:=(sRet (gP2 (kEqv false) (.val (gCall (kk1 kListOf) [(.pk (gIx kIxA (.nm 1) (.con (.int 1) (.int 1))))])) (.val (gUser fn_law_sides [false] [(.nm 0)]))))
def g_law_due_3:SG:=(sIf (gTest (gP2 (kEqv false) (.pk (gIx kIxA (.nm 1) (.con (.int 0) (.int 0)))) (.con (.str "sides") (.str "sides")))) g_law_due_3_t_1 sPass)
def c_law_due_2:G T:=(gLc [3] (gSeq (.pk (gIx kIxA (.nm 1) (.con (.int 1) (.int 1))))) (setS 3) gYes (gChV (Opd.vg (.con (.int 0) (.int 0))) [fun i j => decide (i≤j),fun i j => decide (i < j)] [gInt (Opd.vg (.nm 3)),gInt (gCall (kk1 kLenA) [(.pk (gIx kIxA (.nm 0) (.con (.int 1) (.int 1))))])]))
def g_law_due_4_t_1:SG:=(sRet (Opd.vg (.con (.bl false) (.bool false))))
def g_law_due_4:SG:=(sIf (gOrB (gTest (gP2 (kEqv true) (.pk (gIx kIxA (.nm 1) (.con (.int 0) (.int 0)))) (.con (.str "ring") (.str "ring")))) (gNotB (gTru (.val (gCall (kk1 kAll) [(.val c_law_due_2)]))))) g_law_due_4_t_1 sPass)
def g_law_due_5:SG:=(sRet (gUser fn_law_is_ring [false,false] [(.nm 0),(.val (Opd.vg (.pk (gIx kIxA (.nm 1) (.con (.int 1) (.int 1))))))]))
def g_law_due:SG:=(sSeq g_law_due_1 (sSeq g_law_due_2 (sSeq g_law_due_3 (sSeq g_law_due_4 g_law_due_5))))
def fn_law_due:FnT:=fnOf 2 4 [] g_law_due
def N_law_odd:List Str:=["_law_tape_here","_law_web_here","_law_some"]
def g_law_odd_1:SG:=(sFz 2 (sSet 2 (gLst [(.con .non .none),(.con (.bl true) (.bool true)),(.con (.bl false) (.bool false)),(.con (.int 0) (.int 0)),(.con (.int 1) (.int 1)),(.val (gP1 kNeg (.con (.int 1) (.int 1)))),(.val (gCall (kk1 kLenA) [(.pk (gIx kIxA (.nm 1) (.con (.int 1) (.int 1))))])),(.con (.str "") (.str "")),(.con (.str "ring") (.str "ring")),(.val (gTup [])),(.val (gLst [])),(.val (gLst [(.con (.int 0) (.int 0))])),(.val (gTup [(.con (.int 0) (.int 0)),(.con (.int 1) (.int 1))])),(.val (gLst [(.con (.bl true) (.bool true))])),(.val (gLst [(.con .non .none)])),(.val (gLst [(.con (.str "0") (.str "0"))])),(.val (gLst [(.val (gLst [(.con (.int 0) (.int 0))]))])),(.con (.int 2) (.int 2))])))
def g_law_odd_2:SG:=(sRet (Opd.vg (.pk (gIx kIxA (.nm 2) (.val (gUser fn_law_draw [true,false] [(.nm 0),(.val (gCall (kk1 kLenA) [(.nm 2)]))]))))))
def g_law_odd:SG:=(sSeq g_law_odd_1 g_law_odd_2)
def fn_law_odd:FnT:=fnOf 2 3 [2] g_law_odd
def N_law_bent:List Str:=["_law_tape_here","_law_web_here","_law_thing","_law_at","_law_odd_here","_law_some","_law_word","_law_row","_law_other","_law_k","_law_j","_law_one"]
def g_law_bent_1:SG:=(sAsg (setTup [(setS 6),(setS 7)]) (Opd.vg (.nm 2)))
def g_law_bent_2:SG:=(sSet 3 (gUser fn_law_draw [true,false] [(.nm 0),(.val (gP2 kAdd (.val (gCall (kk1 kLenA) [(.nm 7)])) (.con (.int 1) (.int 1))))]))
def g_law_bent_3:SG:=(sSet 4 (gUser fn_law_odd [true,false] [(.nm 0),(.nm 1)]))
def g_law_bent_4:SG:=(sFz 5 (sSet 5 (gLst [(.val (gTup [(.nm 6),(.val (gP2 kAdd (.val (gOs [(.nm 7),.iv (Opd.vg (.nm 3))] (kP (kk3u kCut)))) (.val (gOs [(.nm 7),.iv (gP2 kAdd (.nm 3) (.con (.int 1) (.int 1)))] (kP (kk3l kCut))))))])),(.val (gTup [(.nm 6),(.val (gP2 kAdd (.val (gP2 kAdd (.val (gOs [(.nm 7),.iv (Opd.vg (.nm 3))] (kP (kk3u kCut)))) (.val (gOs [(.nm 7),.iv (Opd.vg (.nm 3)),.iv (gP2 kAdd (.nm 3) (.con (.int 1) (.int 1)))] (kP (kk3 kCut)))))) (.val (gOs [(.nm 7),.iv (Opd.vg (.nm 3))] (kP (kk3l kCut))))))])),(.val (gLst [(.nm 6),(.nm 7)])),(.val (gTup [(.nm 6),(.nm 4)]))])))
def g_law_bent_5:SG:=(sFz 5 (sSet 5 (gP2 kAdd (.nm 5) (.val (gFzE (gLst [(.val (gTup [(.nm 6),(.val (gP2 kAdd (.val (gP2 kAdd (.val (gOs [(.nm 7),.iv (Opd.vg (.nm 3))] (kP (kk3u kCut)))) (.val (gLst [(.nm 4)])))) (.val (gOs [(.nm 7),.iv (gP2 kAdd (.nm 3) (.con (.int 1) (.int 1)))] (kP (kk3l kCut))))))])),(.val (gTup [(.nm 6),(.val (gCall (kk1 kRevL) [(.nm 7)]))]))]))))))
def g_law_bent_6:SG:=(sFz 5 (sSet 5 (gP2 kAdd (.nm 5) (.val (gLst [(.val (gTup [(.val (gIx kIxA (.val (gLst [(.con (.str "ring") (.str "ring")),(.con (.str "sides") (.str "sides")),(.con (.str "Ring") (.str "Ring")),(.con .non .none)])) (.val (gUser fn_law_draw [true,false] [(.nm 0),(.con (.int 4) (.int 4))])))),(.nm 7)]))])))))
def g_law_bent_7:SG:=(sFz 5 (sSet 5 (gP2 kAdd (.nm 5) (.val (gFzE (gLst [(.val (gTup [(.nm 6),(.nm 7),(.val (gTup []))])),(.val (gTup [(.nm 6)])),(.nm 4),(.val (gTup [(.nm 6),(.val (gCall (kk1 kTupOf) [(.nm 7)]))])),(.val (gTup [(.nm 6),(.val (gP2 kAdd (.val (gOs [(.nm 7),.iv (Opd.vg (.nm 3))] (kP (kk3l kCut)))) (.val (gOs [(.nm 7),.iv (Opd.vg (.nm 3))] (kP (kk3u kCut))))))]))]))))))
def g_law_bent_8_t_1:SG:=(sPar [9,10] [(gUser fn_law_draw [true,false] [(.nm 0),(.val (gCall (kk1 kLenA) [(.nm 7)]))]),(gUser fn_law_draw [true,false] [(.nm 0),(.val (gCall (kk1 kLenA) [(.nm 7)]))])])
def g_law_bent_8_t_2:SG:=(sSet 8 (gCall (kk1 kListOf) [(.nm 7)]))
def g_law_bent_8_t_3:SG:=(sPut2 8 8 (.nm 9) (.nm 10) (gTup [(.pk (gIx kIxA (.nm 8) (.nm 10))),(.pk (gIx kIxA (.nm 8) (.nm 9)))]))
def c_law_bent_1:G T:=(gLc [11] (gSeq (.nm 7)) (setS 11) gYes (gP2 kSubI (.con (.int 1) (.int 1)) (.nm 11)))
def g_law_bent_8_t_4:SG:=(sFz 5 (sSet 5 (gP2 kAdd (.nm 5) (.val (gFzE (gLst [(.val (gTup [(.nm 6),(.nm 8)])),(.val (gTup [(.nm 6),(.val (gP2 kAdd (.val (gP2 kAdd (.val (gOs [(.nm 7),.iv (Opd.vg (.nm 9))] (kP (kk3u kCut)))) (.val (gLst [(.val (gP2 kSubI (.con (.int 1) (.int 1)) (.pk (gIx kIxA (.nm 7) (.nm 9)))))])))) (.val (gOs [(.nm 7),.iv (gP2 kAdd (.nm 9) (.con (.int 1) (.int 1)))] (kP (kk3l kCut))))))])),(.val (gTup [(.nm 6),(.val c_law_bent_1)]))]))))))
def g_law_bent_8_t_5:SG:=(sFz 5 (sSet 5 (gP2 kAdd (.nm 5) (.val (gFzE (gLst [(.val (gTup [(.nm 6),(.val (gP2 kAdd (.val (gP2 kAdd (.val (gOs [(.nm 7),.iv (Opd.vg (.nm 9))] (kP (kk3u kCut)))) (.val (gLst [(.val (gP2 (kEqv false) (.pk (gIx kIxA (.nm 7) (.nm 9))) (.con (.int 1) (.int 1))))])))) (.val (gOs [(.nm 7),.iv (gP2 kAdd (.nm 9) (.con (.int 1) (.int 1)))] (kP (kk3l kCut))))))])),(.val (gTup [(.nm 6),(.val (gP2 kAdd (.val (gP2 kAdd (.val (gOs [(.nm 7),.iv (Opd.vg (.nm 9))] (kP (kk3u kCut)))) (.val (gLst [(.val (gP2 kAdd (.pk (gIx kIxA (.nm 7) (.nm 9))) (.con (.int 1) (.int 1))))])))) (.val (gOs [(.nm 7),.iv (gP2 kAdd (.nm 9) (.con (.int 1) (.int 1)))] (kP (kk3l kCut))))))]))]))))))
def g_law_bent_8:SG:=(sIf (gTest (gP2 (kEqv true) (.nm 7) (.val (gLst [])))) (sSeq g_law_bent_8_t_1 (sSeq g_law_bent_8_t_2 (sSeq g_law_bent_8_t_3 (sSeq g_law_bent_8_t_4 g_law_bent_8_t_5)))) sPass)
def g_law_bent_9:SG:=(sRet (Opd.vg (.pk (gIx kIxA (.nm 5) (.val (gUser fn_law_draw [true,false] [(.nm 0),(.val (gCall (kk1 kLenA) [(.nm 5)]))]))))))
def g_law_bent:SG:=(sSeq g_law_bent_1 (sSeq g_law_bent_2 (sSeq g_law_bent_3 (sSeq g_law_bent_4 (sSeq g_law_bent_5 (sSeq g_law_bent_6 (sSeq g_law_bent_7 (sSeq g_law_bent_8 g_law_bent_9))))))))
def fn_law_bent:FnT:=fnOf 3 12 [6,7,3,4,5,5,5,5,9,10,8,5,5] g_law_bent
def N_law_says:List Str:=["_law_web_here","_law_thing","_law_kept","_law_found"]
def g_law_says_1:SG:=(sSet 2 (gCall (kk1 kStrV) [(.nm 1)]))
def g_law_says_2:SG:=(sSet 3 (gUser fn_shows_sides [false,false] [(.nm 0),(.nm 1)]))
def g_law_says_3:SG:=(sRet (gAndV (gP1 (kIsi .bool) (.nm 3)) (gAndV (gP2 (kEqv false) (.nm 3) (.val (gUser fn_law_due [false,false] [(.nm 0),(.nm 1)]))) (gP2 (kEqS false) (.val (gCall (kk1 kStrV) [(.nm 1)])) (.nm 2)))))
def g_law_says:SG:=(sSeq g_law_says_1 (sSeq g_law_says_2 g_law_says_3))
def fn_law_says:FnT:=fnOf 2 4 [2,3] g_law_says
def N_law:List Str:=["_law_script","_law_k","_law_tape_here","_law_web_here","_law_sides_here","_law_rings","_law_things","_law_turn","_law_thing","_law_ring"]
def g_law_1_1:SG:=(sSet 2 (gUser fn_law_tape [false,false] [(.nm 0),(.nm 1)]))
def g_law_1_2:SG:=(sSet 3 (gUser fn_law_drawn [true,false] [(.nm 2),(.val (gP2 (kEqv false) (.val (gUser fn_law_draw [true,false] [(.nm 2),(.con (.int 8) (.int 8))])) (.con (.int 0) (.int 0))))]))
def g_law_1_3:SG:=(sFz 4 (sSet 4 (gUser fn_law_sides [false] [(.nm 3)])))
def c_law_1:G T:=(gLc [7] (gOs [(.con (.int 4) (.int 4))] kRng1) (setS 7) gYes (gUser fn_law_ring_of [true,false] [(.nm 2),(.nm 3)]))
def g_law_1_4:SG:=(sFz 5 (sSet 5 c_law_1))
def c_law_2:G T:=(gLc [9] (gSeq (.nm 5)) (setS 9) gYes (gTup [(.con (.str "ring") (.str "ring")),(.nm 9)]))
def g_law_1_5:SG:=(sFz 6 (sSet 6 (gP2 kAdd (.val c_law_2) (.val (gFzE (gLst [(.val (gTup [(.con (.str "sides") (.str "sides")),(.val (gIf (gTest (gP2 (kIsN true) (.nm 4) (.con .non .none))) (Opd.vg (.nm 4)) (gP2 kMul (.val (gLst [(.con (.int 0) (.int 0))])) (.pk (gIx kIxA (.nm 3) (.con (.int 0) (.int 0)))))))]))]))))))
def c_law_3:G T:=(gLc [8] (gSeq (.nm 6)) (setS 8) gYes (gUser fn_law_says [false,false] [(.nm 3),(.nm 8)]))
def g_law_1_6_t_1:SG:=(sRet (Opd.vg (.con (.bl false) (.bool false))))
def g_law_1_6:SG:=(sIf (gNotB (gTru (.val (gCall (kk1 kAll) [(.val c_law_3)])))) g_law_1_6_t_1 sPass)
def g_law_1_7_1:SG:=(sSet 8 (Opd.vg (.pk (gIx kIxA (.nm 6) (.val (gIx kIxA (.val (gLst [(.val (gP2 kModI (.nm 7) (.con (.int 5) (.int 5)))),(.con (.int 4) (.int 4))])) (.val (gUser fn_law_draw [true,false] [(.nm 2),(.con (.int 2) (.int 2))]))))))))
def g_law_1_7_2_t_1:SG:=(sRet (Opd.vg (.con (.bl false) (.bool false))))
def g_law_1_7_2:SG:=(sIf (gNotB (gTru (.val (gUser fn_law_says [false,false] [(.nm 3),(.val (gUser fn_law_bent [true,false,false] [(.nm 2),(.nm 3),(.nm 8)]))])))) g_law_1_7_2_t_1 sPass)
def g_law_1_7:SG:=(sFor [7,8] (gOs [(.con (.int 10) (.int 10))] kRng1) (setS 7) (sSeq g_law_1_7_1 g_law_1_7_2))
def g_law_1:SG:=(sFor [1,2,3,4,5,6,7,8] (gOs [(.val (gP2 kAdd (.con (.int 1) (.int 1)) (.val (gCall (kk2 kMin2) [(.con (.int 12) (.int 12)),(.val (gCall (kk1 kLenA) [(.nm 0)]))]))))] kRng1) (setS 1) (sSeq g_law_1_1 (sSeq g_law_1_2 (sSeq g_law_1_3 (sSeq g_law_1_4 (sSeq g_law_1_5 (sSeq g_law_1_6 g_law_1_7)))))))
def c_law_4:G T:=(gLc [8] (gSeq (.val (gFzE (gTup [(.val (gTup [(.con (.str "sides") (.str "sides")),(.val (gLst []))])),(.val (gTup [(.con (.str "sides") (.str "sides")),(.val (gTup []))])),(.val (gTup [(.con (.str "ring") (.str "ring")),(.val (gLst []))])),(.val (gTup [(.con (.str "sides") (.str "sides")),(.val (gLst [(.con (.int 0) (.int 0))]))]))])))) (setS 8) gYes (gUser fn_law_says [false,false] [(.val (gTup [(.con (.int 0) (.int 0)),(.val (gTup []))])),(.nm 8)]))
def g_law_2:SG:=(sRet (gCall (kk1 kAll) [(.val c_law_4)]))
def g_law:SG:=(sSeq g_law_1 g_law_2)
def fn_law:FnT:=fnOf 1 10 [1,2,3,4,5,6,7,8] g_law
structure Tape where
 a:Nat
 b:Int
def tT (t:Tape):T:=.lst [iT (t.a:Int),iT t.b]
@[simp] theorem tT_inj (a b:Tape):tT a = tT b↔a = b:=by
 cases a; cases b
 simp [tT]
 omega
@[simp] theorem indep_tT (t:Tape):indep (tT t) = true:=by simp [tT]
theorem in64_of {x:Int} (h1:-(2 ^ 64) < x) (h2:x < 2 ^ 64):in64 x = true:=by simp [in64]; omega
@[simp] theorem in64_m1 (x:Int):in64 (x % 1009 + 3) = true:=in64_of (by omega) (by omega)
@[simp] theorem in64_m2 (x:Int):in64 (x % 997 + 5) = true:=in64_of (by omega) (by omega)
@[simp] theorem in64_c:in64 48271 = true:=in64_of (by omega) (by omega)
@[simp] theorem in64_d:in64 7919 = true:=in64_of (by omega) (by omega)
@[simp] theorem in64_e:in64 1 = true:=in64_of (by omega) (by omega)
@[simp] theorem in64_0:in64 0 = true:=in64_of (by omega) (by omega)
@[simp] theorem in64_2:in64 2 = true:=in64_of (by omega) (by omega)
@[simp] theorem in64_if (p:Prop) [Decidable p]:in64 (if p then 1 else 0) = true:=by split <;> simp
def nB (b:Int):Int:=(b * 48271 + 12345) % 2147483647
def nO (b:Int):Int:=nB b * (nB b % 1009 + 3) % 2147483629
def dV (t:Tape) (m:Int):Int:=if 0 < t.a then (t.a:Int) % m else nO t.b * (nO t.b % 997 + 5) % 998244353 % m
def dT (t:Tape) (m:Int):Tape:=if 0 < t.a then ⟨t.a / m.toNat,t.b⟩ else ⟨0,nB t.b⟩
theorem dV_nn (t:Tape) {m:Int} (h:0 < m):0≤dV t m:=by
 unfold dV
 split
 ·exact Int.emod_nonneg _ (by omega)
 ·exact Int.emod_nonneg _ (by omega)
theorem dV_lt (t:Tape) {m:Int} (h:0 < m):dV t m < m:=by
 unfold dV
 split
 ·exact Int.emod_lt_of_pos _ h
 ·exact Int.emod_lt_of_pos _ h
theorem draw (t:Tape) {m:Int} (hm:0 < m) (hm2:m < 1073741824):fn_law_draw [tT t,iT m] = .ret (iT (dV t m)) [some (tT (dT t m)),some (iT m)]:=by
 have hm3:m.natAbs < 1073741824:=by omega
 by_cases h:0 < t.a
 ·have h':(0:Int) < (t.a:Int):=by omega
  have e:((t.a:Int) / m) = ((t.a / m.toNat:Nat):Int):=by
   rw [Int.natCast_ediv,Int.toNat_of_nonneg (by omega)]
  simp [fn_law_draw,fnOf_ev,g_law_draw,g_law_draw_1,g_law_draw_1_t_1,g_law_draw_1_t_2,g_law_draw_1_t_3,tT,h',h,hm,hm3,dV,dT,e]
 ·have h':t.a = 0:=by omega
  simp [fn_law_draw,fnOf_ev,g_law_draw,g_law_draw_1,g_law_draw_2,g_law_draw_3,g_law_draw_4,tT,h',hm,hm2,dV,dT,nB,nO]
theorem tape_1 (ns:List Int) (k:Int):g_law_tape_1 [some (.scr ns),some (iT k),none,none] = .nx [some (.scr ns),some (iT k),some (iT 0),none]:=by simp [g_law_tape_1]
theorem tape_2 (ns:List Int) (k:Nat):∃ c,g_law_tape_2 [some (.scr ns),some (iT (k:Int)),some (iT 0),none] = .nx [some (.scr ns),some (iT (k:Int)),some (iT c),none]:=by
 by_cases h:k < ns.length
 ·have e1:atI ns (k:Int) = some ns[k]:=atI_nat (by simp [h])
  exact ⟨ns[k],by simp [g_law_tape_2,g_law_tape_2_t_1,h,e1]⟩
 ·exact ⟨0,by simp [g_law_tape_2,g_law_tape_2_t_1,h]⟩
def aB (c:Int):Int:=if c < 0 then -c else c
theorem aB_nat (c:Int):aB c = (c.natAbs:Int):=by unfold aB; split <;> omega
@[simp] theorem kAbs_a (a:Int):kAbs (.d (.int a)) = some (.d (.int (aB a))):=rfl
theorem tape_3 (ns:List Int) (k c:Int):∃ d:Nat,g_law_tape_3 [some (.scr ns),some (iT k),some (iT c),none] = .nx [some (.scr ns),some (iT k),some (iT c),some (iT (d:Int))]:=by
 have key:∃ b:Bool,g_law_tape_3 [some (.scr ns),some (iT k),some (iT c),none] = .nx [some (.scr ns),some (iT k),some (iT c),some (iT (aB c * (if b = true then 1 else 0)))]:=⟨decide ((10:Int) ^ 18≤aB c),by simp [g_law_tape_3,-kAbs_i]⟩
 obtain ⟨b,key⟩:=key
 refine ⟨c.natAbs * (if b = true then 1 else 0),?_⟩
 rw [key,aB_nat]
 cases b <;> simp
theorem tape_4 (ns:List Int) (k c d:Int):g_law_tape_4 [some (.scr ns),some (iT k),some (iT c),some (iT d)] = .rt (.lst [iT d,iT ((c + 7919 * k + 1) % 2147483647 * 48271 % 2147483647)]) [some (.scr ns),some (iT k),some (iT c),some (iT d)]:=by
 simp [g_law_tape_4,sizeLine_eq]
theorem tape (ns:List Int) (k:Nat):∃ t:Tape,fn_law_tape [.scr ns,iT (k:Int)] = .ret (tT t) [some (.scr ns),some (iT (k:Int))]:=by
 obtain ⟨c,h2⟩:=tape_2 ns k
 obtain ⟨d,h3⟩:=tape_3 ns k c
 refine ⟨⟨d,(c + 7919 * k + 1) % 2147483647 * 48271 % 2147483647⟩,?_⟩
 simp [fn_law_tape,fnOf_ev,g_law_tape,tape_1,h2,h3,tape_4,tT]
theorem kEqv_str (neg:Bool) {x y:Str} (hx:(PyData.str x).canLay0 = true) (hy:(PyData.str y).canLay0 = true):kEqv neg (.d (.str x)) (.d (.str y)) = some (bT (if neg then !decide (x = y) else decide (x = y))):=by
 have o1:Ok 0 (.str x):=⟨hx,by simp [PyData.depth]⟩
 have o2:Ok 0 (.str y):=⟨hy,by simp [PyData.depth]⟩
 rw [kEqv_at (n:=0) (x:=.str x) (y:=.str y) (by simp) (by simp) o1 o2,eqv_nb (by simp) (by simp) (x = y) ⟨fun h => by rw [h],fun h => PyData.str.inj h⟩]
theorem ke_t {x y:Str} (hx:(PyData.str x).canLay0 = true) (hy:(PyData.str y).canLay0 = true) (h:decide (x = y) = true):kEqv false (.d (.str x)) (.d (.str y)) = some (bT true):=by rw [kEqv_str false hx hy,h]; rfl
theorem ke_f {x y:Str} (hx:(PyData.str x).canLay0 = true) (hy:(PyData.str y).canLay0 = true) (h:decide (x = y) = false):kEqv false (.d (.str x)) (.d (.str y)) = some (bT false):=by rw [kEqv_str false hx hy,h]; rfl
theorem cl_ri:(PyData.str "ring").canLay0 = true:=by decide +kernel
theorem asBools_map' {α:Type} (f:α→Bool) (l:List α):asBools (l.map fun x => PyData.bool (f x)) = some (l.map f):=by
 have:=asBools_map (l.map f)
 rw [List.map_map] at this
 exact this
theorem all_map {α:Type} (f:α→Bool) (l:List α):kAll (.lst (l.map fun x => bT (f x))) = some (bT (l.all f)):=by
 simp [kAll,asBools_map']
def isInt:D→Bool
 | .int _ => true
 | _ => false
def ndD:D→Bool
 | .dict _ => false
 | _ => true
theorem is_numberD (x:D) (h:ndD x = true:=by rfl):fn_is_number [.d x] = .ret (bT (isInt x)) [some (.d x)]:=by
 cases x with
 | dict l => cases h
 | _ => simp [fn_is_number,fnOf_ev,g_is_number,g_is_number_1,kIsi,tyOf,subTy,isInt]
def leafD:D→Bool
 | .none => true
 | .bool _ => true
 | .int i => decide (i.natAbs < 600)
 | .str z => okS z
 | _ => false
inductive AnyD:Nat→D→Prop
 | leaf (n:Nat) {x:D} (h:leafD x = true):AnyD n x
 | lst {n:Nat} {xs:List D} (h:∀ y,y∈xs→AnyD n y) (hl:xs.length≤40):AnyD (n + 1) (.list xs)
 | tup {n:Nat} {xs:List D} (h:∀ y,y∈xs→AnyD n y) (hl:xs.length≤40):AnyD (n + 1) (.tuple xs)
theorem AnyD.up {n:Nat} {x:D} (h:AnyD n x):AnyD (n + 1) x:=by
 induction h with
 | leaf n h => exact .leaf _ h
 | lst h hl ih => exact .lst ih hl
 | tup h hl ih => exact .tup ih hl
theorem AnyD.mono {n m:Nat} {x:D} (h:AnyD n x) (l:n≤m):AnyD m x:=by
 induction l with
 | refl => exact h
 | step _ ih => exact ih.up
theorem AnyD.nd {n:Nat} {x:D} (h:AnyD n x):ndD x = true:=by
 cases h with
 | leaf _ h => cases x <;> first | rfl | cases h
 | lst => rfl
 | tup => rfl
theorem depth_all {n:Nat}:∀ {xs:List D},(∀ y,y∈xs→y.depth≤n)→PyData.depthAll xs≤n
 | [],_ => by simp [PyData.depthAll]
 | x :: xs,h => by
  have h1:=h x (by simp)
  have h2:=depth_all (xs:=xs) fun y hy => h y (by simp [hy])
  simp only [PyData.depthAll]
  omega
theorem AnyD.dep {n:Nat} {x:D} (h:AnyD n x):x.depth≤n:=by
 induction h with
 | leaf n h => rename_i x; cases x <;> first | (simp [PyData.depth]; done) | cases h
 | lst h hl ih =>
  have:=depth_all ih
  simp only [PyData.depth]
  omega
 | tup h hl ih =>
  have:=depth_all ih
  simp only [PyData.depth]
  omega
theorem lay_all:∀ {xs:List D},(∀ y,y∈xs→y.canLay0 = true)→PyData.canLayAll0 xs = true
 | [],_ => by simp [PyData.canLayAll0]
 | x :: xs,h => by
  have h1:=h x (by simp)
  have h2:=lay_all (xs:=xs) fun y hy => h y (by simp [hy])
  simp [PyData.canLayAll0,h1,h2]
theorem AnyD.lay {n:Nat} {x:D} (h:AnyD n x):x.canLay0 = true:=by
 induction h with
 | leaf n h =>
  rename_i x
  cases x with
  | str z =>
   simp only [leafD,okS,Bool.and_eq_true] at h
   simpa [PyData.canLay0,PyData.strOk] using h.1
  | list xs => cases h
  | tuple xs => cases h
  | dict xs => cases h
  | _ => simp [PyData.canLay0]
 | lst h hl ih => simp [PyData.canLay0,lay_all ih]
 | tup h hl ih => simp [PyData.canLay0,lay_all ih]
theorem AnyD.ok {n:Nat} {x:D} (h:AnyD n x):Ok n x:=⟨h.lay,h.dep⟩
structure Gd (n s:Nat) (x:D):Prop where
 any:AnyD n x
 sm:smallD x
 sz:sizeD x≤s
theorem Gd.mono {n m s r:Nat} {x:D} (h:Gd n s x) (l:n≤m) (k:s≤r):Gd m r x:=⟨h.any.mono l,h.sm,Nat.le_trans h.sz k⟩
theorem Gd.leaf {x:D} (n:Nat) {s:Nat} (h:leafD x = true) (l:1≤s):Gd n s x:=by
 refine ⟨.leaf _ h,?_,?_⟩
 ·cases x with
  | int i =>
   simp only [leafD,decide_eq_true_eq] at h
   simp only [smallD]
   omega
  | str z => simpa [leafD,smallD] using h
  | list xs => cases h
  | tuple xs => cases h
  | dict xs => cases h
  | _ => simp [smallD]
 ·cases x <;> first | (simp only [sizeD]; omega) | cases h
theorem small_all:∀ {xs:List D},(∀ y,y∈xs→smallD y)→smallA xs
 | [],_ => by simp [smallA]
 | x :: xs,h => by
  simp only [smallA]
  exact ⟨h x (by simp),small_all fun y hy => h y (by simp [hy])⟩
theorem size_all {s:Nat}:∀ {xs:List D},(∀ y,y∈xs→sizeD y≤s)→sizeA xs≤xs.length * s
 | [],_ => by simp [sizeA]
 | x :: xs,h => by
  have h1:=h x (by simp)
  have h2:=size_all (xs:=xs) fun y hy => h y (by simp [hy])
  simp only [sizeA,List.length_cons,Nat.succ_mul]
  omega
theorem Gd.lst {n s r k:Nat} {xs:List D} (h:∀ y,y∈xs→Gd n s y) (hl:xs.length≤k) (hk:k≤40) (hr:1 + k * s≤r):Gd (n + 1) r (.list xs):=by
 refine ⟨.lst (fun y hy => (h y hy).any) (by omega),?_,?_⟩
 ·simp only [smallD]
  exact small_all fun y hy => (h y hy).sm
 ·have:=size_all fun y hy => (h y hy).sz
  have:xs.length * s≤k * s:=Nat.mul_le_mul_right _ hl
  simp only [sizeD]
  omega
theorem Gd.tup {n s r k:Nat} {xs:List D} (h:∀ y,y∈xs→Gd n s y) (hl:xs.length≤k) (hk:k≤40) (hr:1 + k * s≤r):Gd (n + 1) r (.tuple xs):=by
 refine ⟨.tup (fun y hy => (h y hy).any) (by omega),?_,?_⟩
 ·simp only [smallD]
  exact small_all fun y hy => (h y hy).sm
 ·have:=size_all fun y hy => (h y hy).sz
  have:xs.length * s≤k * s:=Nat.mul_le_mul_right _ hl
  simp only [sizeD]
  omega
theorem Gd.repr {n s:Nat} {x:D} (h:Gd n s x) (hn:n≤60) (hs:s≤2900):∃ z,kReprV (.d x) = some (.d (.str z)):=by
 have sh:=(Sh.of h.sm).mono (m:=60) (v:=300000) (Nat.le_trans h.any.dep hn) (by have:=h.sz; omega)
 have ok:=sh.ok
 unfold kReprV
 cases x with
 | none => exact ⟨_,rfl⟩
 | bool b => exact ⟨_,rfl⟩
 | int i =>
  have hi:=sh.shw
  simp only [PyData.showable,decide_eq_true_eq] at hi
  exact ⟨_,by simp only [datOf]; rw [if_pos hi]⟩
 | str z =>
  have hz:=h.sm
  simp only [smallD,okS,Bool.and_eq_true,decide_eq_true_eq] at hz
  have:(reprText z).length≤sizeLine:=by
   have:=PySem.StrLaws.reprText_len z fun c hc => by
    have:=Array.all_eq_true_iff_forall_mem.mp hz.1 c (by simpa using hc)
    simp at this
    omega
   have l:z.length = z.cps.size:=rfl
   rw [sizeLine_eq]
   omega
  exact ⟨_,by simp only [datOf]; rw [if_pos this]⟩
 | list xs => exact ⟨_,by simp only [datOf]; rw [if_pos ok]⟩
 | tuple xs => exact ⟨_,by simp only [datOf]; rw [if_pos ok]⟩
 | dict l => exact (h.sm).elim
theorem leaf_all {xs:List D} (h:xs.all leafD = true) (hl:xs.length≤3):Gd 1 4 (.tuple xs)∧Gd 1 4 (.list xs):=by
 have l:∀ y,y∈xs→Gd 0 1 y:=fun y hy => .leaf _ (List.all_eq_true.mp h y hy) (by omega)
 exact ⟨.tup (k:=3) l hl (by omega) (by omega),.lst (k:=3) l hl (by omega) (by omega)⟩
theorem Gd.strv {n s:Nat} {x:D} (h:Gd n s x) (hn:n≤60) (hs:s≤2900):∃ z,kStrV (.d x) = some (.d (.str z)):=by
 have sh:=(Sh.of h.sm).mono (m:=60) (v:=300000) (Nat.le_trans h.any.dep hn) (by have:=h.sz; omega)
 have ok:=sh.ok
 unfold kStrV
 cases x with
 | none => exact ⟨_,rfl⟩
 | bool b => exact ⟨_,rfl⟩
 | int i =>
  have hi:=sh.shw
  simp only [PyData.showable,decide_eq_true_eq] at hi
  exact ⟨_,by simp only [datOf]; rw [if_pos hi]⟩
 | str z => exact ⟨_,rfl⟩
 | list xs => exact ⟨_,by simp only [datOf]; rw [if_pos ok]⟩
 | tuple xs => exact ⟨_,by simp only [datOf]; rw [if_pos ok]⟩
 | dict l => exact (h.sm).elim
def pT (p:Int × Int):T:=.d (.tuple [.int p.1,.int p.2])
def pL (ps:List (Int × Int)):T:=.lst (ps.map pT)
def PG (m:Int) (ps:List (Int × Int)):Prop:=∀ p,p∈ps→0≤p.1∧p.1 < m∧0≤p.2∧p.2 < m∧p.1≠p.2
theorem PG.nil (m:Int):PG m []:=fun p h => by simp at h
theorem PG.app {m:Int} {ps qs:List (Int × Int)} (h:PG m ps) (h':PG m qs):PG m (ps++qs):=fun p hp => by
 (rcases List.mem_append.mp hp with z | z)
 ·exact h p z
 ·exact h' p z
theorem PG.one {m a b:Int} (h:0≤a∧a < m∧0≤b∧b < m∧a≠b):PG m [(a,b)]:=fun p hp => by
 simp at hp
 subst hp
 exact h
@[simp] theorem asDs_pT (ps:List (Int × Int)):asDs (ps.map pT) = some (ps.map fun p => .tuple [.int p.1,.int p.2]):=asDs_mapd (fun p:Int × Int => PyData.tuple [.int p.1,.int p.2]) ps
theorem pT_map (ps:List (Int × Int)):ps.map pT = (ps.map fun p => PyData.tuple [.int p.1,.int p.2]).map T.d:=by simp [pT]
@[simp] theorem indepA_pT (ps:List (Int × Int)):indepA (ps.map pT) = true:=indepA_map (f:=fun p:Int × Int => PyData.tuple [.int p.1,.int p.2]) (fun _ => rfl) ps
@[simp] theorem asDs_pTc {α:Type} (f:α→Int × Int) (l:List α):asDs (l.map (pT ∘ f)) = some (l.map fun a => .tuple [.int (f a).1,.int (f a).2]):=asDs_mapd (fun a => PyData.tuple [.int (f a).1,.int (f a).2]) l
section
variable (t:Tape) (g:Bool) (w m:Int) (ps:List (Int × Int)) (x5 x6 x7 x8 x9:Option T)
theorem pairs_1 (x2 x3 x4:Option T):g_law_pairs_by_1 [some (tT t),some (bT g),x2,x3,x4,x5,x6,x7,x8,x9] = .nx [some (tT (dT t 8)),some (bT g),some (iT (dV t 8)),x3,x4,x5,x6,x7,x8,x9]:=by
 simp [g_law_pairs_by_1,draw]
theorem pairs_2 (x2 x3 x4:Option T):∃ m t',0≤m∧m≤12∧g_law_pairs_by_2 [some (tT t),some (bT g),x2,x3,x4,x5,x6,x7,x8,x9] = .nx [some (tT t'),some (bT g),x2,some (iT m),x4,x5,x6,x7,x8,x9]:=by
 have h1:=dV_nn t (m:=7) (by omega)
 have h2:=dV_lt t (m:=7) (by omega)
 have h3:=dV_nn (dT t 7) (m:=6) (by omega)
 have h4:=dV_lt (dT t 7) (m:=6) (by omega)
 cases g with
 | false => exact ⟨dV t 7,dT (dT t 7) 6,h1,by omega,by simp [g_law_pairs_by_2,draw,sizeLine_eq]⟩
 | true => exact ⟨7 + dV (dT t 7) 6,dT (dT t 7) 6,by omega,by omega,by simp [g_law_pairs_by_2,draw,sizeLine_eq]⟩
theorem pairs_3 (x4:Option T) (x2 x3:Option T):g_law_pairs_by_3 [some (tT t),some (bT g),x2,x3,x4,x5,x6,x7,x8,x9] = .nx [some (tT t),some (bT g),x2,x3,some (pL []),x5,x6,x7,x8,x9]:=by
 simp [g_law_pairs_by_3,sizeLine_eq,pL]
theorem skip_4 (h:¬ (w < 3∧1 < m)) (x4:Option T):g_law_pairs_by_4 [some (tT t),some (bT g),some (iT w),some (iT m),x4,x5,x6,x7,x8,x9] = .nx [some (tT t),some (bT g),some (iT w),some (iT m),x4,x5,x6,x7,x8,x9]:=by
 by_cases c:w < 3
 ·have:¬ 1 < m:=fun z => h ⟨c,z⟩
  simp [g_law_pairs_by_4,c,this]
 ·simp [g_law_pairs_by_4,c]
theorem pairs_4 (hm:1 < m) (hm2:m≤12) (hw:w < 3):∃ ps t' y5 y8,PG m ps∧ps.length≤24∧g_law_pairs_by_4 [some (tT t),some (bT g),some (iT w),some (iT m),some (pL []),x5,x6,x7,x8,x9] = .nx [some (tT t'),some (bT g),some (iT w),some (iT m),some (pL ps),y5,x6,x7,y8,x9]:=by
 have n1:=dV_nn t (m:=2 * m + 1) (by omega)
 have n2:=dV_lt t (m:=2 * m + 1) (by omega)
 have hm':0 < m:=by omega
 obtain ⟨ρ',e,t',ps,y5,y8,hp,hl,rfl⟩:=for_run (g:=g_law_pairs_by_4_t_1) rfl (ρ0:=[some (tT t),some (bT g),some (iT w),some (iT m),some (pL []),x5,x6,x7,x8,x9]) (ρ:=[some (tT (dT t (2 * m + 1))),some (bT g),some (iT w),some (iT m),some (pL []),x5,x6,x7,x8,x9]) (w:=rng 0 (dV t (2 * m + 1)).toNat)
  (by
   have d:=draw t (m:=2 * m + 1) (by omega) (by omega)
   have b:in62 (dV t (2 * m + 1)) = true:=in62_of (by omega) (by omega)
   simp [d,b]) (rds_rng 0 _ fun _ => True) rfl
  (fun k ρ => ∃ t' ps y5 y8,PG m ps∧ps.length≤k∧ρ = [some (tT t'),some (bT g),some (iT w),some (iT m),some (pL ps),y5,x6,x7,y8,x9]) (fun _ _ _ => trivial) ⟨_,[],x5,x8,PG.nil m,by simp,rfl⟩
  (fun k hk ρ p => by
   obtain ⟨t',ps,y5,y8,hp,hl,rfl⟩:=p
   have k2:k < (dV t (2 * m + 1)).toNat:=by simpa [rgI_length] using hk
   have d1:=draw t' (m:=m) (by omega) (by omega)
   have d2:=draw (dT t' m) (m:=m - 1) (by omega) (by omega)
   have a1:=dV_nn t' (m:=m) (by omega)
   have a2:=dV_lt t' (m:=m) (by omega)
   have a3:=dV_nn (dT t' m) (m:=m - 1) (by omega)
   have a4:=dV_lt (dT t' m) (m:=m - 1) (by omega)
   have hz:ps.length < 16777216:=by omega
   refine ⟨[some (tT (dT (dT t' m) (m - 1))),some (bT g),some (iT w),some (iT m),some (pL (ps++[(dV t' m,(dV t' m + 1 + dV (dT t' m) (m - 1)) % m)])),some (iT (0 + (k:Int))),x6,x7,some (iT (dV t' m)),x9],.inl ?_,_,_,_,_,hp.app (PG.one ⟨a1,a2,Int.emod_nonneg _ (by omega),Int.emod_lt_of_pos _ hm',?_⟩),by simp; omega,rfl⟩
   ·simp [turn,g_law_pairs_by_4_t_1_1,g_law_pairs_by_4_t_1_2,d1,d2,hm',hz,sizeLine_eq,pL,pT,rgI]
   ·intro e
    by_cases c:dV t' m + 1 + dV (dT t' m) (m - 1) < m
    ·rw [Int.emod_eq_of_lt (by omega) c] at e; omega
    ·have:(dV t' m + 1 + dV (dT t' m) (m - 1)) % m = dV t' m + 1 + dV (dT t' m) (m - 1) - m:=by
      rw [← Int.sub_emod_right,Int.emod_eq_of_lt (by omega) (by omega)]
     omega)
 refine ⟨ps,t',y5,y8,hp,?_,?_⟩
 ·simp [rgI_length] at hl
  omega
 ·simp [g_law_pairs_by_4,hm,hw,e]
theorem rgI_mem {i:Int} {n:Nat} {a:Int} (h:a∈rgI i n):i≤a∧a < i + n:=by
 simp only [rgI,List.mem_map,List.mem_range] at h
 obtain ⟨k,hk,rfl⟩:=h
 omega
theorem skip_5 (h:¬ (w = 3∧2 < m)) (x4:Option T):g_law_pairs_by_5 [some (tT t),some (bT g),some (iT w),some (iT m),x4,x5,x6,x7,x8,x9] = .nx [some (tT t),some (bT g),some (iT w),some (iT m),x4,x5,x6,x7,x8,x9]:=by
 by_cases c:w = 3
 ·have:¬ 2 < m:=fun z => h ⟨c,z⟩
  simp [g_law_pairs_by_5,c,this]
 ·simp [g_law_pairs_by_5,c]
theorem pairs_5 (hm:2 < m) (hm2:m≤12) (x4:Option T):∃ ps t',PG m ps∧ps.length≤24∧g_law_pairs_by_5 [some (tT t),some (bT g),some (iT 3),some (iT m),x4,x5,none,x7,x8,x9] = .nx [some (tT t'),some (bT g),some (iT 3),some (iT m),some (pL ps),x5,none,x7,x8,x9]:=by
 have hm':0 < m:=by omega
 have d:=draw t (m:=m - 1) (by omega) (by omega)
 have a1:=dV_nn t (m:=m - 1) (by omega)
 have a2:=dV_lt t (m:=m - 1) (by omega)
 have c:=lc_run (c:=c_law_pairs_by_1) (l:=rgI 0 m.toNat) (enc:=iT) (fun _ => true) (fun k => pT (k,(k + 1) % m)) rfl (ρ0:=[some (tT t),some (bT g),some (iT 3),some (iT m),x4,x5,none,x7,x8,x9]) (w:=rng 0 m.toNat) (ρ:=[some (tT t),some (bT g),some (iT 3),some (iT m),x4,x5,none,x7,x8,x9])
  (by
   have b:in62 m = true:=in62_of (by omega) (by omega)
   simp [b]) (rds_rng 0 _ fun _ => True) rfl (by rw [rgI_length]; omega) trivial
  (fun k hk => ⟨_,by simp; rfl,by simp,by simp,fun _ => by simp [hm',sizeLine_eq,pT]⟩)
 refine ⟨(rgI 0 m.toNat).map (fun k => (k,(k + 1) % m))++[(0,dV t (m - 1) + 1)],dT t (m - 1),?_,?_,?_⟩
 ·refine PG.app (fun p hp => ?_) (PG.one ⟨by omega,by omega,by omega,by omega,by omega⟩)
  obtain ⟨k,hk,rfl⟩:=List.mem_map.mp hp
  have:=rgI_mem hk
  refine ⟨this.1,by omega,Int.emod_nonneg _ (by omega),Int.emod_lt_of_pos _ hm',?_⟩
  intro e
  simp only at e
  by_cases c:k + 1 < m
  ·rw [Int.emod_eq_of_lt (by omega) c] at e; omega
  ·have:(k + 1) % m = 0:=by
    have:k + 1 = m:=by omega
    rw [this]; simp
   omega
 ·simp [rgI_length]; omega
 ·have hm3:(0:Int) < m - 1:=by omega
  have hl:(rgI 0 m.toNat).length = m.toNat:=rgI_length _ _
  have e1:List.map (fun k:Int => pT (k,(k + 1) % m)) (rgI 0 m.toNat) = ((rgI 0 m.toNat).map fun k => PyData.tuple [.int k,.int ((k + 1) % m)]).map T.d:=by simp [pT]
  have hz:m.toNat + 1≤16777216:=by omega
  simp only [filter_yes,e1] at c
  simp [g_law_pairs_by_5,g_law_pairs_by_5_t_1,hm,c,d,sizeLine_eq,hl,hz,pL,pT]
theorem skip_6 (h:¬ (w = 4∧1 < m)) (x4:Option T):g_law_pairs_by_6 [some (tT t),some (bT g),some (iT w),some (iT m),x4,x5,x6,x7,x8,x9] = .nx [some (tT t),some (bT g),some (iT w),some (iT m),x4,x5,x6,x7,x8,x9]:=by
 by_cases c:w = 4
 ·have:¬ 1 < m:=fun z => h ⟨c,z⟩
  simp [g_law_pairs_by_6,c,this]
 ·simp [g_law_pairs_by_6,c]
theorem pairs_6 (hm:1 < m) (hm2:m≤12) (x4:Option T):∃ ps,PG m ps∧ps.length≤24∧g_law_pairs_by_6 [some (tT t),some (bT g),some (iT 4),some (iT m),x4,x5,none,x7,x8,x9] = .nx [some (tT t),some (bT g),some (iT 4),some (iT m),some (pL ps),x5,none,x7,x8,x9]:=by
 have c:=lc_run (c:=c_law_pairs_by_2) (l:=rgI 1 (m - 1).toNat) (enc:=iT) (fun _ => true) (fun k => pT (0,k)) rfl (ρ0:=[some (tT t),some (bT g),some (iT 4),some (iT m),x4,x5,none,x7,x8,x9]) (w:=rng 1 (m - 1).toNat) (ρ:=[some (tT t),some (bT g),some (iT 4),some (iT m),x4,x5,none,x7,x8,x9])
  (by
   have b:in62 m = true:=in62_of (by omega) (by omega)
   simp [b]) (rds_rng 1 _ fun _ => True) rfl (by rw [rgI_length]; omega) trivial
  (fun k hk => ⟨_,by simp; rfl,by simp,by simp,fun _ => by simp [sizeLine_eq,pT]⟩)
 refine ⟨(rgI 1 (m - 1).toNat).map (fun k => (0,k)),fun p hp => ?_,by simp [rgI_length]; omega,?_⟩
 ·obtain ⟨k,hk,rfl⟩:=List.mem_map.mp hp
  have:=rgI_mem hk
  exact ⟨by simp,by simp; omega,by simp; omega,by simp; omega,by simp; omega⟩
 ·simp only [filter_yes] at c
  simp [g_law_pairs_by_6,g_law_pairs_by_6_t_1,hm,c,pL]
theorem skip_7 (h:w≠5) (x4:Option T):g_law_pairs_by_7 [some (tT t),some (bT g),some (iT w),some (iT m),x4,x5,x6,x7,x8,x9] = .nx [some (tT t),some (bT g),some (iT w),some (iT m),x4,x5,x6,x7,x8,x9]:=by
 simp [g_law_pairs_by_7,h]
theorem pairs_7a (hm:0≤m) (hm2:m≤12):∃ m':Int,0≤m'∧m'≤6∧g_law_pairs_by_7_t_1 [some (tT t),some (bT g),some (iT 5),some (iT m),some (pL []),x5,none,x7,x8,none] = .nx [some (tT t),some (bT g),some (iT 5),some (iT m'),some (pL []),x5,none,x7,x8,none]:=by
 cases g with
 | false => exact ⟨min m 5,by omega,by omega,by simp [g_law_pairs_by_7_t_1]⟩
 | true => exact ⟨min m 6,by omega,by omega,by simp [g_law_pairs_by_7_t_1]⟩
theorem pairs_7b (k:Nat) (hk:k < 12):g_law_pairs_by_7_t_2_1 [some (tT t),some (bT g),some (iT 5),some (iT m),some (pL ps),x5,some (iT (k:Int)),x7,x8,none] = if ps.length < 10000 then .nx [some (tT t),some (bT g),some (iT 5),some (iT m),some (pL (ps++(rgI 0 k).map fun j => (j,(k:Int)))),x5,some (iT (k:Int)),x7,x8,none] else g_law_pairs_by_7_t_2_1 [some (tT t),some (bT g),some (iT 5),some (iT m),some (pL ps),x5,some (iT (k:Int)),x7,x8,none]:=by
 split
 ·rename_i hz
  have c:=lc_all (c:=c_law_pairs_by_3) (l:=rgI 0 k) (enc:=iT) (fun j => pT (j,(k:Int))) rfl (ρ0:=[some (tT t),some (bT g),some (iT 5),some (iT m),some (pL ps),x5,some (iT (k:Int)),x7,x8,none]) (w:=rng 0 k) (ρ:=[some (tT t),some (bT g),some (iT 5),some (iT m),some (pL ps),x5,some (iT (k:Int)),x7,x8,none])
   (by
    have b:in62 (k:Int) = true:=in62_of (by omega) (by omega)
    simp [b]) (rds_rng 0 _ fun _ => True) rfl (by rw [rgI_length]; omega) trivial
   (fun j hj => ⟨_,by simp; rfl,by simp,by simp [sizeLine_eq,pT]⟩)
  have e1:List.map (fun j:Int => pT (j,(k:Int))) (rgI 0 k) = ((rgI 0 k).map fun j => (j,(k:Int))).map pT:=by simp
  rw [e1] at c
  generalize hq:(rgI 0 k).map (fun j => (j,(k:Int))) = qs at c ⊢
  have hl:qs.length = k:=by rw [← hq,List.length_map,rgI_length]
  have hz2:ps.length + k≤16777216:=by omega
  simp [g_law_pairs_by_7_t_2_1,pL] at c ⊢
  simp [c,sizeLine_eq,hl,hz2,pT]
 ·rfl
theorem pairs_7 (hm:0≤m) (hm2:m≤12):∃ ps m' y6,0≤m'∧m'≤12∧PG m' ps∧ps.length≤36∧g_law_pairs_by_7 [some (tT t),some (bT g),some (iT 5),some (iT m),some (pL []),x5,none,x7,x8,none] = .nx [some (tT t),some (bT g),some (iT 5),some (iT m'),some (pL ps),x5,y6,x7,x8,none]:=by
 obtain ⟨m',h0,h6,e0⟩:=pairs_7a t g m x5 x7 x8 hm hm2
 obtain ⟨ρ',e,ps,y6,hp,hl,rfl⟩:=for_run (g:=g_law_pairs_by_7_t_2) rfl (ρ0:=[some (tT t),some (bT g),some (iT 5),some (iT m'),some (pL []),x5,none,x7,x8,none]) (ρ:=[some (tT t),some (bT g),some (iT 5),some (iT m'),some (pL []),x5,none,x7,x8,none]) (w:=rng 0 m'.toNat)
  (by
   have b:in62 m' = true:=in62_of (by omega) (by omega)
   simp [b]) (rds_rng 0 _ fun _ => True) rfl
  (fun k ρ => ∃ ps y6,PG m' ps∧ps.length≤6 * k∧ρ = [some (tT t),some (bT g),some (iT 5),some (iT m'),some (pL ps),x5,y6,x7,x8,none]) (fun _ _ _ => trivial) ⟨[],none,PG.nil m',by simp,rfl⟩
  (fun k hk ρ p => by
   obtain ⟨ps,y6,hp,hl,rfl⟩:=p
   have k2:k < m'.toNat:=by simpa [rgI_length] using hk
   have b:=pairs_7b t g m' ps x5 x7 x8 k (by omega)
   rw [if_pos (by omega)] at b
   refine ⟨[some (tT t),some (bT g),some (iT 5),some (iT m'),some (pL (ps++(rgI 0 k).map fun j => (j,(k:Int)))),x5,some (iT (k:Int)),x7,x8,none],.inl ?_,_,_,hp.app (qs:=(rgI 0 k).map fun j => (j,(k:Int))) (fun p hp => ?_),by simp [rgI_length]; omega,rfl⟩
   ·show turn _ _ _ _ = _
    simp only [turn]
    simp [rgI]
    simpa [rgI] using b
   ·obtain ⟨j,hj,rfl⟩:=List.mem_map.mp hp
    have:=rgI_mem hj
    exact ⟨by simp; omega,by simp; omega,by simp,by simp; omega,by simp; omega⟩)
 refine ⟨ps,m',y6,h0,by omega,hp,?_,?_⟩
 ·simp [rgI_length] at hl
  omega
 ·simp [g_law_pairs_by_7,e0,e]
theorem skip_8 (h:w≠6) (x4:Option T):g_law_pairs_by_8 [some (tT t),some (bT g),some (iT w),some (iT m),x4,x5,x6,x7,x8,x9] = .nx [some (tT t),some (bT g),some (iT w),some (iT m),x4,x5,x6,x7,x8,x9]:=by
 simp [g_law_pairs_by_8,h]
theorem pairs_8c (k s:Int) (hs:0≤s) (hs2:s≤12) (hm:0≤m) (hm2:m≤12):∃ qs t',(∀ q,q∈qs→q.1 = k∧s≤q.2∧q.2 < m)∧qs.length≤(m - s).toNat∧c_law_pairs_by_4 [some (tT t),some (bT g),some (iT w),some (iT m),some (pL ps),x5,some (iT k),some (iT s),x8,none] = .ok (pL qs) [some (tT t'),some (bT g),some (iT w),some (iT m),some (pL ps),x5,some (iT k),some (iT s),x8,none]:=by
 obtain ⟨ts,ρ',e,t',qs,h1,h2,h3,rfl⟩:=lc_gen_run (c:=c_law_pairs_by_4) rfl (ρ0:=[some (tT t),some (bT g),some (iT w),some (iT m),some (pL ps),x5,some (iT k),some (iT s),x8,none]) (ρ:=[some (tT t),some (bT g),some (iT w),some (iT m),some (pL ps),x5,some (iT k),some (iT s),x8,none]) (w:=rng s (m - s).toNat)
  (by
   have b:in62 s = true:=in62_of (by omega) (by omega)
   have b2:in62 m = true:=in62_of (by omega) (by omega)
   simp [b,b2]) (rds_rng s _ fun _ => True) rfl (by simp [rgI_length]; omega)
  (fun n acc ρ => ∃ t' qs,acc = List.map pT qs∧(∀ q,q∈qs→q.1 = k∧s≤q.2∧q.2 < m)∧qs.length≤n∧ρ = [some (tT t'),some (bT g),some (iT w),some (iT m),some (pL ps),x5,some (iT k),some (iT s),x8,none]) (fun _ _ _ _ => trivial)
  (fun n acc ρ h => by
   obtain ⟨t',qs,rfl,_,h,_⟩:=h
   simpa using h) ⟨t,[],rfl,by simp,by simp,by simp⟩
  (fun n hn acc ρ h => by
   obtain ⟨t',qs,rfl,h1,h2,rfl⟩:=h
   have hn':n < (m - s).toNat:=by simpa [rgI_length] using hn
   have d:=draw t' (m:=3) (by omega) (by omega)
   refine ⟨_,decide (0 < dV t' 3),[some (tT (dT t' 3)),some (bT g),some (iT w),some (iT m),some (pL ps),x5,some (iT k),some (iT s),x8,some (iT (s + (n:Int)))],by simp [rgI]; rfl,by simp [d],fun hb => ?_,fun hb => ?_⟩
   ·refine ⟨pT (k,s + (n:Int)),[some (tT (dT t' 3)),some (bT g),some (iT w),some (iT m),some (pL ps),x5,some (iT k),some (iT s),x8,some (iT (s + (n:Int)))],by simp [sizeLine_eq,pT],dT t' 3,qs++[(k,s + (n:Int))],by simp,fun q hq => ?_,by simp; omega,by simp⟩
    (rcases List.mem_append.mp hq with hq | hq)
    ·exact h1 q hq
    ·simp at hq
     subst hq
     exact ⟨rfl,by simp; omega,by simp; omega⟩
   ·exact ⟨dT t' 3,qs,rfl,h1,by omega,by simp⟩)
 subst h1
 simp [rgI_length] at h3
 exact ⟨qs,t',h2,h3,by rw [e]; simp [pL]⟩
theorem pairs_8 (hm:0≤m) (hm2:m≤12):∃ ps t' y6 y7,PG m ps∧ps.length≤36∧g_law_pairs_by_8 [some (tT t),some (bT g),some (iT 6),some (iT m),some (pL []),x5,none,x7,x8,none] = .nx [some (tT t'),some (bT g),some (iT 6),some (iT m),some (pL ps),x5,y6,y7,x8,none]:=by
 have e0:g_law_pairs_by_8_t_1 [some (tT t),some (bT g),some (iT 6),some (iT m),some (pL []),x5,none,x7,x8,none] = .nx [some (tT t),some (bT g),some (iT 6),some (iT m),some (pL []),x5,none,some (iT (1 + m / 2)),x8,none]:=by
  simp [g_law_pairs_by_8_t_1]
 generalize hs:1 + m / 2 = s at e0
 have s0:0≤s:=by omega
 have s7:s≤7:=by omega
 obtain ⟨ρ',e,ps,t',y6,hp,hl,rfl⟩:=for_run (g:=g_law_pairs_by_8_t_2) rfl (ρ0:=[some (tT t),some (bT g),some (iT 6),some (iT m),some (pL []),x5,none,some (iT s),x8,none]) (ρ:=[some (tT t),some (bT g),some (iT 6),some (iT m),some (pL []),x5,none,some (iT s),x8,none]) (w:=rng 0 s.toNat)
  (by
   have b:in62 s = true:=in62_of (by omega) (by omega)
   simp [b]) (rds_rng 0 _ fun _ => True) rfl
  (fun k ρ => ∃ ps t' y6,PG m ps∧ps.length≤k * (m - s).toNat∧ρ = [some (tT t'),some (bT g),some (iT 6),some (iT m),some (pL ps),x5,y6,some (iT s),x8,none]) (fun _ _ _ => trivial) ⟨[],t,none,PG.nil m,by simp,rfl⟩
  (fun k hk ρ p => by
   obtain ⟨ps,t',y6,hp,hl,rfl⟩:=p
   have k2:k < s.toNat:=by simpa [rgI_length] using hk
   obtain ⟨qs,t2,h1,h2,c⟩:=pairs_8c t' g 6 m ps x5 x8 (k:Int) s (by omega) (by omega) hm hm2
   have hz:ps.length + qs.length≤16777216:=by
    have:k * (m - s).toNat≤7 * 12:=Nat.mul_le_mul (by omega) (by omega)
    omega
   refine ⟨[some (tT t2),some (bT g),some (iT 6),some (iT m),some (pL (ps++qs)),x5,some (iT (k:Int)),some (iT s),x8,none],.inl ?_,_,_,_,hp.app (fun q hq => ?_),?_,rfl⟩
   ·simp [turn,g_law_pairs_by_8_t_2_1,rgI]
    simp [pL] at c ⊢
    simp [c,sizeLine_eq,hz,pT]
   ·obtain ⟨a1,a2,a3⟩:=h1 q hq
    rw [a1]
    exact ⟨by omega,by omega,by omega,by omega,by omega⟩
   ·rw [List.length_append,Nat.add_mul]
    omega)
 refine ⟨ps,t',y6,some (iT s),hp,?_,?_⟩
 ·simp [rgI_length] at hl
  have:s.toNat * (m - s).toNat≤36:=by
   have:(s = 1∧m≤1)∨(s = 2∧m≤3)∨(s = 3∧m≤5)∨(s = 4∧m≤7)∨(s = 5∧m≤9)∨(s = 6∧m≤11)∨(s = 7∧m≤12):=by omega
   rcases this with ⟨rfl,h⟩ | ⟨rfl,h⟩ | ⟨rfl,h⟩ | ⟨rfl,h⟩ | ⟨rfl,h⟩ | ⟨rfl,h⟩ | ⟨rfl,h⟩ <;> simp <;> omega
  omega
 ·simp [g_law_pairs_by_8,e0,e]
theorem skip_9 (h:w≠7) (x4:Option T):g_law_pairs_by_9 [some (tT t),some (bT g),some (iT w),some (iT m),x4,x5,x6,x7,x8,x9] = .nx [some (tT t),some (bT g),some (iT w),some (iT m),x4,x5,x6,x7,x8,x9]:=by
 simp [g_law_pairs_by_9,h]
theorem pairs_9 (hm:0≤m) (hm2:m≤12):∃ ps t' m' y6,0≤m'∧m'≤12∧PG m' ps∧ps.length≤9∧g_law_pairs_by_9 [some (tT t),some (bT g),some (iT 7),some (iT m),some (pL []),x5,none,x7,x8,none] = .nx [some (tT t'),some (bT g),some (iT 7),some (iT m'),some (pL ps),x5,y6,x7,x8,none]:=by
 have e0:g_law_pairs_by_9_t_1 [some (tT t),some (bT g),some (iT 7),some (iT m),some (pL []),x5,none,x7,x8,none] = .nx [some (tT t),some (bT g),some (iT 7),some (iT (3 + m / 3)),some (pL []),x5,none,x7,x8,none]:=by
  simp [g_law_pairs_by_9_t_1]
 generalize hs:3 + m / 3 = m' at e0
 obtain ⟨ρ',e,ps,t',y6,hp,hl,rfl⟩:=for_run (g:=g_law_pairs_by_9_t_2) rfl (ρ0:=[some (tT t),some (bT g),some (iT 7),some (iT m'),some (pL []),x5,none,x7,x8,none]) (ρ:=[some (tT t),some (bT g),some (iT 7),some (iT m'),some (pL []),x5,none,x7,x8,none]) (w:=rng 0 3)
  (by simp) (rds_rng 0 _ fun _ => True) rfl
  (fun k ρ => ∃ ps t' y6,PG m' ps∧ps.length≤k * 3∧ρ = [some (tT t'),some (bT g),some (iT 7),some (iT m'),some (pL ps),x5,y6,x7,x8,none]) (fun _ _ _ => trivial) ⟨[],t,none,PG.nil m',by simp,rfl⟩
  (fun k hk ρ p => by
   obtain ⟨ps,t',y6,hp,hl,rfl⟩:=p
   have k2:k < 3:=by simpa [rgI_length] using hk
   have d:=draw t' (m:=3) (by omega) (by omega)
   have a1:=dV_nn t' (m:=3) (by omega)
   have a2:=dV_lt t' (m:=3) (by omega)
   have n1:(1 + dV t' 3).natAbs < 9223372036854775808:=by omega
   have n2:(1 + dV t' 3).toNat≤3:=by omega
   have n3:(1 + dV t' 3).toNat≤16777216:=by omega
   have hz:ps.length + (1 + dV t' 3).toNat≤16777216:=by omega
   refine ⟨[some (tT (dT t' 3)),some (bT g),some (iT 7),some (iT m'),some (pL (ps++List.replicate (1 + dV t' 3).toNat ((k:Int),((k:Int) + 1) % 3))),x5,some (iT (k:Int)),x7,x8,none],.inl ?_,_,_,_,hp.app (fun q hq => ?_),?_,rfl⟩
   ·simp [turn,g_law_pairs_by_9_t_2_1,rgI,d,sizeLine_eq,n1,n3,pL,hz,pT]
   ·have:=(List.mem_replicate.mp hq).2
    subst this
    have:k = 0∨k = 1∨k = 2:=by omega
    rcases this with rfl | rfl | rfl <;> simp <;> omega
   ·simp
    omega)
 refine ⟨ps,t',m',y6,by omega,by omega,hp,?_,?_⟩
 ·simpa [rgI_length] using hl
 ·simp [g_law_pairs_by_9,e0,e]
theorem pairs_by:∃ m ps t',0≤m∧m≤12∧PG m ps∧ps.length≤36∧fn_law_pairs_by [tT t,bT g] = .ret (.tup [iT m,pL ps]) [some (tT t'),some (bT g)]:=by
 have e1:=pairs_1 t g none none none none none none none none
 generalize hw:dV t 8 = w at e1
 have w0:0≤w:=hw ▸ dV_nn t (by omega)
 have w8:w < 8:=hw ▸ dV_lt t (by omega)
 obtain ⟨m,t1,m0,m12,e2⟩:=pairs_2 (dT t 8) g none none none none none (some (iT w)) none none
 have e3:=pairs_3 t1 g none none none none none none (some (iT w)) (some (iT m))
 have fin:∀ (t':Tape) (m':Int) (ps:List (Int × Int)) (y5 y6 y7 y8 y9:Option T),sSeq g_law_pairs_by_4 (sSeq g_law_pairs_by_5 (sSeq g_law_pairs_by_6 (sSeq g_law_pairs_by_7 (sSeq g_law_pairs_by_8 (sSeq g_law_pairs_by_9 g_law_pairs_by_10))))) [some (tT t1),some (bT g),some (iT w),some (iT m),some (pL []),none,none,none,none,none] = g_law_pairs_by_10 [some (tT t'),some (bT g),some (iT w),some (iT m'),some (pL ps),y5,y6,y7,y8,y9]→fn_law_pairs_by [tT t,bT g] = .ret (.tup [iT m',pL ps]) [some (tT t'),some (bT g)]:=by
  intro t' m' ps y5 y6 y7 y8 y9 h
  have e10:g_law_pairs_by_10 [some (tT t'),some (bT g),some (iT w),some (iT m'),some (pL ps),y5,y6,y7,y8,y9] = .rt (.tup [iT m',pL ps]) [some (tT t'),some (bT g),some (iT w),some (iT m'),none,y5,y6,y7,y8,y9]:=by
   simp [g_law_pairs_by_10,sizeLine_eq,pL]
  rw [e10] at h
  show fnOf _ _ _ _ _ = _
  rw [fnOf_ev]
  have:g_law_pairs_by (List.map some [tT t,bT g]++List.replicate (10 - 2) none) = .rt (.tup [iT m',pL ps]) [some (tT t'),some (bT g),some (iT w),some (iT m'),none,y5,y6,y7,y8,y9]:=by
   show g_law_pairs_by [some (tT t),some (bT g),none,none,none,none,none,none,none,none] = _
   rw [g_law_pairs_by,sSeq_ev,e1]
   show sSeq _ _ _ = _
   rw [sSeq_ev,e2]
   show sSeq _ _ _ = _
   rw [sSeq_ev,e3]
   exact h
  rw [this]
  simp
 have cs:w < 3∨w = 3∨w = 4∨w = 5∨w = 6∨w = 7:=by omega
 rcases cs with c | rfl | rfl | rfl | rfl | rfl
 ·by_cases hm:1 < m
  ·obtain ⟨ps,t',y5,y8,hp,hl,e⟩:=pairs_4 t1 g w m none none none none none hm m12 c
   refine ⟨m,ps,t',m0,m12,hp,by omega,fin t' m ps y5 none none y8 none ?_⟩
   simp only [sSeq_ev,e,skip_5 t' g w m y5 none none y8 none (by omega),skip_6 t' g w m y5 none none y8 none (by omega),skip_7 t' g w m y5 none none y8 none (by omega),skip_8 t' g w m y5 none none y8 none (by omega),skip_9 t' g w m y5 none none y8 none (by omega)]
  ·refine ⟨m,[],t1,m0,m12,PG.nil m,by simp,fin t1 m [] none none none none none ?_⟩
   simp only [sSeq_ev,skip_4 t1 g w m none none none none none (by omega),skip_5 t1 g w m none none none none none (by omega),skip_6 t1 g w m none none none none none (by omega),skip_7 t1 g w m none none none none none (by omega),skip_8 t1 g w m none none none none none (by omega),skip_9 t1 g w m none none none none none (by omega)]
 ·by_cases hm:2 < m
  ·obtain ⟨ps,t',hp,hl,e⟩:=pairs_5 t1 g m none none none none hm m12 (some (pL []))
   refine ⟨m,ps,t',m0,m12,hp,by omega,fin t' m ps none none none none none ?_⟩
   simp only [sSeq_ev,skip_4 t1 g 3 m none none none none none (by omega),e,skip_6 t' g 3 m none none none none none (by omega),skip_7 t' g 3 m none none none none none (by omega),skip_8 t' g 3 m none none none none none (by omega),skip_9 t' g 3 m none none none none none (by omega)]
  ·refine ⟨m,[],t1,m0,m12,PG.nil m,by simp,fin t1 m [] none none none none none ?_⟩
   simp only [sSeq_ev,skip_4 t1 g 3 m none none none none none (by omega),skip_5 t1 g 3 m none none none none none (by omega),skip_6 t1 g 3 m none none none none none (by omega),skip_7 t1 g 3 m none none none none none (by omega),skip_8 t1 g 3 m none none none none none (by omega),skip_9 t1 g 3 m none none none none none (by omega)]
 ·by_cases hm:1 < m
  ·obtain ⟨ps,hp,hl,e⟩:=pairs_6 t1 g m none none none none hm m12 (some (pL []))
   refine ⟨m,ps,t1,m0,m12,hp,by omega,fin t1 m ps none none none none none ?_⟩
   simp only [sSeq_ev,skip_4 t1 g 4 m none none none none none (by omega),skip_5 t1 g 4 m none none none none none (by omega),e,skip_7 t1 g 4 m none none none none none (by omega),skip_8 t1 g 4 m none none none none none (by omega),skip_9 t1 g 4 m none none none none none (by omega)]
  ·refine ⟨m,[],t1,m0,m12,PG.nil m,by simp,fin t1 m [] none none none none none ?_⟩
   simp only [sSeq_ev,skip_4 t1 g 4 m none none none none none (by omega),skip_5 t1 g 4 m none none none none none (by omega),skip_6 t1 g 4 m none none none none none (by omega),skip_7 t1 g 4 m none none none none none (by omega),skip_8 t1 g 4 m none none none none none (by omega),skip_9 t1 g 4 m none none none none none (by omega)]
 ·obtain ⟨ps,m',y6,h0,h12,hp,hl,e⟩:=pairs_7 t1 g m none none none m0 m12
  refine ⟨m',ps,t1,h0,h12,hp,hl,fin t1 m' ps none y6 none none none ?_⟩
  simp only [sSeq_ev,skip_4 t1 g 5 m none none none none none (by omega),skip_5 t1 g 5 m none none none none none (by omega),skip_6 t1 g 5 m none none none none none (by omega),e,skip_8 t1 g 5 m' none y6 none none none (by omega),skip_9 t1 g 5 m' none y6 none none none (by omega)]
 ·obtain ⟨ps,t',y6,y7,hp,hl,e⟩:=pairs_8 t1 g m none none none m0 m12
  refine ⟨m,ps,t',m0,m12,hp,hl,fin t' m ps none y6 y7 none none ?_⟩
  simp only [sSeq_ev,skip_4 t1 g 6 m none none none none none (by omega),skip_5 t1 g 6 m none none none none none (by omega),skip_6 t1 g 6 m none none none none none (by omega),skip_7 t1 g 6 m none none none none none (by omega),e,skip_9 t' g 6 m none y6 y7 none none (by omega)]
 ·obtain ⟨ps,t',m',y6,h0,h12,hp,hl,e⟩:=pairs_9 t1 g m none none none m0 m12
  refine ⟨m',ps,t',h0,h12,hp,by omega,fin t' m' ps none y6 none none none ?_⟩
  simp only [sSeq_ev,skip_4 t1 g 7 m none none none none none (by omega),skip_5 t1 g 7 m none none none none none (by omega),skip_6 t1 g 7 m none none none none none (by omega),skip_7 t1 g 7 m none none none none none (by omega),skip_8 t1 g 7 m none none none none none (by omega),e]
end
theorem datOf_pL (ps:List (Int × Int)):datOf (pL ps) = some (.list (ps.map fun p => .tuple [.int p.1,.int p.2])):=by
 have:=datsOf_mapd (fun p:Int × Int => PyData.tuple [.int p.1,.int p.2]) ps
 simp only [pL,datOf_ll]
 rw [show List.map pT ps = List.map (fun p:Int × Int => T.d (PyData.tuple [.int p.1,.int p.2])) ps from rfl,this]
 rfl
theorem kEqv_pL (neg:Bool) (ps:List (Int × Int)):kEqv neg (pL ps) (.lst []) = some (bT (if neg then !ps.isEmpty else ps.isEmpty)):=by
 rw [kEqv_at (n:=2) (datOf_pL ps) (by simp) (.list (.map fun p _ => .tuple (.cons (.int _ _) (.cons (.int _ _) (.nil _))))) (.list (.nil _))]
 have:PyData.eqv (.list (ps.map fun p => .tuple [.int p.1,.int p.2])) (.list []) = ps.isEmpty:=by
  cases ps <;> simp [PyData.eqv,PyData.eqvAll]
 rw [this]
section
variable (t:Tape) (g:Bool) (m:Int) (ps:List (Int × Int)) (x2 x5 x6 x7:Option T)
theorem web_1 (x3 x4:Option T):∃ m ps t',0≤m∧m≤12∧PG m ps∧ps.length≤36∧g_law_web_1 [some (tT t),some (bT g),x2,x3,x4,x5,x6,x7] = .nx [some (tT t'),some (bT g),x2,some (iT m),some (pL ps),x5,x6,x7]:=by
 obtain ⟨m,ps,t',h1,h2,h3,h4,e⟩:=pairs_by t g
 refine ⟨m,ps,t',h1,h2,h3,h4,?_⟩
 have i1:indep (pL ps) = true:=by simp [pL]
 simp [g_law_web_1,e,i1]
theorem web_2 (h1:0≤m) (h2:m≤12) (h3:PG m ps) (h4:ps.length≤36):∃ m' ps' t',0≤m'∧m'≤12∧PG m' ps'∧ps'.length≤36∧g_law_web_2 [some (tT t),some (bT g),x2,some (iT m),some (pL ps),x5,x6,x7] = .nx [some (tT t'),some (bT g),x2,some (iT m'),some (pL ps'),x5,x6,x7]:=by
 by_cases c:ps = []
 ·subst c
  obtain ⟨m',ps',t',k1,k2,k3,k4,e⟩:=pairs_by t g
  refine ⟨m',ps',t',k1,k2,k3,k4,?_⟩
  have i1:indep (pL ps') = true:=by simp [pL]
  simp [g_law_web_2,g_law_web_2_t_1,kEqv_pL,sizeLine_eq,e,i1]
 ·refine ⟨m,ps,t,h1,h2,h3,h4,?_⟩
  have:ps.isEmpty = false:=by simpa using c
  simp [g_law_web_2,kEqv_pL,sizeLine_eq,this]
theorem web_3c (h4:ps.length≤36) (h5:0 < ps.length):∃ qs t',(∀ q,q∈qs→q∈ps)∧qs.length≤3∧c_law_web_1 [some (tT t),some (bT g),x2,some (iT m),some (pL ps),x5,x6,none] = .ok (pL qs) [some (tT t'),some (bT g),x2,some (iT m),some (pL ps),x5,x6,none]:=by
 have d0:=draw t (m:=3) (by omega) (by omega)
 have a1:=dV_nn t (m:=3) (by omega)
 have a2:=dV_lt t (m:=3) (by omega)
 obtain ⟨ts,ρ',e,t',qs,h1,h2,h3,rfl⟩:=lc_gen_run (c:=c_law_web_1) rfl (ρ0:=[some (tT t),some (bT g),x2,some (iT m),some (pL ps),x5,x6,none]) (ρ:=[some (tT (dT t 3)),some (bT g),x2,some (iT m),some (pL ps),x5,x6,none]) (w:=rng 0 (1 + dV t 3).toNat)
  (by
   have b:in62 (1 + dV t 3) = true:=in62_of (by omega) (by omega)
   simp [d0,b]) (rds_rng 0 _ fun _ => True) rfl (by simp [rgI_length]; omega)
  (fun n acc ρ => ∃ t' qs,acc = List.map pT qs∧(∀ q,q∈qs→q∈ps)∧qs.length≤n∧ρ = [some (tT t'),some (bT g),x2,some (iT m),some (pL ps),x5,x6,none]) (fun _ _ _ _ => trivial)
  (fun n acc ρ h => by
   obtain ⟨t',qs,rfl,_,h,_⟩:=h
   simpa using h) ⟨dT t 3,[],rfl,by simp,by simp,by simp⟩
  (fun n hn acc ρ h => by
   obtain ⟨t',qs,rfl,h1,h2,rfl⟩:=h
   have d:=draw t' (m:=(ps.length:Int)) (by omega) (by omega)
   have b1:=dV_nn t' (m:=(ps.length:Int)) (by omega)
   have b2:=dV_lt t' (m:=(ps.length:Int)) (by omega)
   have hj:∃ j:Nat,dV t' (ps.length:Int) = (j:Int)∧j < ps.length:=⟨(dV t' (ps.length:Int)).toNat,by omega,by omega⟩
   obtain ⟨j,ej,hj⟩:=hj
   have eat:atI (ps.map pT) (j:Int) = some (pT ps[j]):=atI_nat (by simp [hj])
   rw [ej] at d
   refine ⟨_,true,[some (tT t'),some (bT g),x2,some (iT m),some (pL ps),x5,x6,some (iT (n:Int))],by simp [rgI],rfl,fun _ => ⟨pT ps[j],[some (tT (dT t' (ps.length:Int))),some (bT g),x2,some (iT m),some (pL ps),x5,x6,some (iT (n:Int))],?_,dT t' (ps.length:Int),qs++[ps[j]],by simp,fun q hq => ?_,by simp; omega,by simp⟩,fun hb => by cases hb⟩
   ·simp [pL,d,eat,pT]
   ·rcases List.mem_append.mp hq with hq | hq
    ·exact h1 q hq
    ·simp at hq
     subst hq
     exact List.getElem_mem hj)
 subst h1
 simp [rgI_length] at h3
 exact ⟨qs,t',h2,by omega,by rw [e]; simp [pL]⟩
theorem web_3 (h3:PG m ps) (h4:ps.length≤36):∃ qs t',PG m qs∧qs.length≤39∧g_law_web_3 [some (tT t),some (bT g),x2,some (iT m),some (pL ps),x5,x6,none] = .nx [some (tT t'),some (bT g),x2,some (iT m),some (pL qs),x5,x6,none]:=by
 by_cases c:ps = []
 ·subst c
  exact ⟨[],t,PG.nil m,by simp,by simp [g_law_web_3,kEqv_pL,sizeLine_eq]⟩
 ·have he:ps.isEmpty = false:=by simpa using c
  have d:=draw t (m:=4) (by omega) (by omega)
  by_cases z:dV t 4 = 0
  ·obtain ⟨qs,t',k1,k2,e⟩:=web_3c (dT t 4) g m ps x2 x5 x6 h4 (by cases ps <;> simp_all)
   refine ⟨ps++qs,t',h3.app fun p hp => h3 p (k1 p hp),by simp; omega,?_⟩
   have hz:ps.length + qs.length≤16777216:=by omega
   have e':=e
   simp only [pL] at e'
   have kl:=kEqv_pL true ps
   simp only [pL] at kl
   simp [g_law_web_3,g_law_web_3_t_1,sizeLine_eq,he,d,z,pL,kl,e',hz]
   rfl
  ·exact ⟨ps,dT t 4,h3,by omega,by simp [g_law_web_3,kEqv_pL,sizeLine_eq,he,d,z]⟩
theorem web_4:g_law_web_4 [some (tT t),some (bT g),x2,some (iT m),some (pL ps),x5,x6,x7] = .nx [some (tT t),some (bT g),some (pL []),some (iT m),some (pL ps),x5,x6,x7]:=by
 simp [g_law_web_4,sizeLine_eq,pL]
def QG (m:Int) (qs:List (Int × Int)):Prop:=∀ q,q∈qs→0≤q.1∧q.1 < q.2∧q.2 < m
theorem web_5 (h3:PG m ps) (h4:ps.length≤39):∃ qs t' y5 y6,QG m qs∧qs.length = ps.length∧g_law_web_5 [some (tT t),some (bT g),some (pL []),some (iT m),some (pL ps),x5,x6,x7] = .nx [some (tT t'),some (bT g),some (pL qs),some (iT m),some (pL ps),y5,y6,x7]:=by
 obtain ⟨ρ',e,qs,t',y5,y6,hq,hl,rfl⟩:=for_runL (l:=ps) (enc:=pT) (g:=g_law_web_5) rfl (ρ0:=[some (tT t),some (bT g),some (pL []),some (iT m),some (pL ps),x5,x6,x7]) (ρ:=[some (tT t),some (bT g),some (pL []),some (iT m),some (pL ps),x5,x6,x7])
  (w:=Src.it ⟨some 4,true,(ps.map fun p => PyData.tuple [.int p.1,.int p.2]).map T.d⟩) (by
   simp only [gSeq_ev,src_nm,getS_succ,getS_zero]
   simp [pL]) (by rw [pT_map]; exact rds_sl 4 true _) rfl
  (fun pre ρ => ∃ qs t' y5 y6,QG m qs∧qs.length = pre.length∧ρ = [some (tT t'),some (bT g),some (pL qs),some (iT m),some (pL ps),y5,y6,x7])
  (fun pre ρ h => by
   obtain ⟨qs,t',y5,y6,_,_,rfl⟩:=h
   exact ⟨pL ps,by simp,by simp [pL]⟩) ⟨[],t,x5,x6,by simp [QG],rfl,rfl⟩
  (fun pre p post ρ hps h => by
   obtain ⟨qs,t',y5,y6,hq,hl,rfl⟩:=h
   have hp:=h3 p (by rw [hps]; simp)
   have hlen:ps.length = pre.length + (post.length + 1):=by rw [hps]; simp
   have d:=draw t' (m:=(qs.length:Int) + 1) (by omega) (by omega)
   have b1:=dV_nn t' (m:=(qs.length:Int) + 1) (by omega)
   have b2:=dV_lt t' (m:=(qs.length:Int) + 1) (by omega)
   generalize dV t' ((qs.length:Int) + 1) = j at d b1 b2
   have n1:j.natAbs < 4611686018427387904:=by omega
   have n2:qs.length < 16777216:=by omega
   refine ⟨[some (tT (dT t' ((qs.length:Int) + 1))),some (bT g),some (pL (qs.take j.toNat++(min p.1 p.2,max p.1 p.2) :: qs.drop j.toNat)),some (iT m),some (pL ps),some (iT p.1),some (iT p.2),x7],.inl ?_,_,_,_,_,fun q hq' => ?_,?_,rfl⟩
   ·simp [turn,pT,g_law_web_5_1,pL,d,sizeLine_eq,b1,n1,n2]
   ·rcases List.mem_append.mp hq' with z | z
    ·exact hq q (List.mem_of_mem_take z)
    ·rcases List.mem_cons.mp z with rfl | z
     ·exact ⟨by simp only; omega,by simp only; omega,by simp only; omega⟩
     ·exact hq q (List.mem_of_mem_drop z)
   ·simp
    omega)
 exact ⟨qs,t',y5,y6,hq,hl,e⟩
theorem web:∃ (W:Web) (t':Tape),W.Ok∧W.many≤12∧W.ties.length≤39∧fn_law_web [tT t,bT g] = .ret (wT W) [some (tT t'),some (bT g)]:=by
 obtain ⟨m1,ps1,t1,a1,a2,a3,a4,e1⟩:=web_1 t g none none none none none none
 obtain ⟨m2,ps2,t2,b1,b2,b3,b4,e2⟩:=web_2 t1 g m1 ps1 none none none none a1 a2 a3 a4
 obtain ⟨ps3,t3,c3,c4,e3⟩:=web_3 t2 g m2 ps2 none none none b3 b4
 have e4:=web_4 t3 g m2 ps3 none none none none
 obtain ⟨qs,t5,y5,y6,hq,hl,e5⟩:=web_5 t3 g m2 ps3 none none none c3 c4
 have hN:∃ ties:List (Nat × Nat),qs = ties.map (fun p => ((p.1:Int),(p.2:Int)))∧∀ p,p∈ties→p.1 < p.2∧(p.2:Int) < m2:=by
  refine ⟨qs.map fun q => (q.1.toNat,q.2.toNat),?_,fun p hp => ?_⟩
  ·rw [List.map_map]
   conv => lhs; rw [← List.map_id qs]
   apply List.map_congr_left
   intro q hq'
   have:=hq q hq'
   simp only [id,Function.comp]
   rw [Int.toNat_of_nonneg this.1,Int.toNat_of_nonneg (by omega)]
  ·obtain ⟨q,hq',rfl⟩:=List.mem_map.mp hp
   have:=hq q hq'
   simp only
   omega
 obtain ⟨ties,rfl,ht⟩:=hN
 refine ⟨⟨m2.toNat,ties⟩,t5,fun p hp => ?_,by simp only; omega,?_,?_⟩
 ·have:=ht p hp
  simp only
  omega
 ·simp only
  simp at hl
  omega
 ·have e6:g_law_web_6 [some (tT t5),some (bT g),some (pL (ties.map fun p => ((p.1:Int),(p.2:Int)))),some (iT m2),some (pL ps3),y5,y6,none] = .rt (.d (.tuple [.int m2,.tuple (ties.map tieD)])) [some (tT t5),some (bT g),some (pL (ties.map fun p => ((p.1:Int),(p.2:Int)))),some (iT m2),some (pL ps3),y5,y6,none]:=by
   simp [g_law_web_6,pL,sizeLine_eq]
   intro _ _ _
   rfl
  have hm:((m2.toNat:Nat):Int) = m2:=Int.toNat_of_nonneg b1
  show fnOf _ _ _ _ _ = _
  rw [fnOf_ev]
  have:g_law_web (List.map some [tT t,bT g]++List.replicate (8 - 2) none) = .rt (.d (.tuple [.int m2,.tuple (ties.map tieD)])) [some (tT t5),some (bT g),some (pL (ties.map fun p => ((p.1:Int),(p.2:Int)))),some (iT m2),some (pL ps3),y5,y6,none]:=by
   show g_law_web [some (tT t),some (bT g),none,none,none,none,none,none] = _
   simp only [g_law_web,sSeq_ev,e1,e2,e3,e4,e5,e6]
  rw [this]
  simp [wT,Web.d,hm]
end
theorem popAt_n (xs:List T) {j:Nat} (h:j < xs.length) (hl:xs.length < 1000000):mPopAt xs [iT (j:Int)] = some (xs[j],xs.eraseIdx j):=by
 have e:seqIndex? (j:Int) xs.length = some j:=by
  unfold seqIndex?
  simp
  omega
 have n:(j:Int).natAbs < 9223372036854775808:=by omega
 have n2:j < 9223372036854775808:=by omega
 simp [mPopAt,e,n2,h]
theorem kLr1_n (m:Nat) (h:m < 1000000):kLr1 [iT (m:Int)] = some (nL (List.range m)):=by
 have r:rgOk 0 (m:Int) = true:=by simp [rgOk]; omega
 simp [kLr1,r,rgI,nL]
theorem toNat_pairs {m:Int} {qs:List (Int × Int)} (hq:QG m qs):∃ ties:List (Nat × Nat),qs = ties.map (fun p => ((p.1:Int),(p.2:Int)))∧∀ p,p∈ties→p.1 < p.2∧(p.2:Int) < m:=by
 refine ⟨qs.map fun q => (q.1.toNat,q.2.toNat),?_,fun p hp => ?_⟩
 ·rw [List.map_map]
  conv => lhs; rw [← List.map_id qs]
  apply List.map_congr_left
  intro q hq'
  have:=hq q hq'
  simp only [id,Function.comp]
  rw [Int.toNat_of_nonneg this.1,Int.toNat_of_nonneg (by omega)]
 ·obtain ⟨q,hq',rfl⟩:=List.mem_map.mp hp
  have:=hq q hq'
  simp only
  omega
theorem perm_pop {le fo:List Nat} {j:Nat} (hj:j < le.length):List.Perm ((fo++[le[j]])++le.eraseIdx j) (fo++le):=by
 rw [List.append_assoc]
 refine List.Perm.append_left fo ?_
 show List.Perm (le[j] :: le.eraseIdx j) le
 rw [List.eraseIdx_eq_take_drop_succ]
 refine List.Perm.trans List.perm_middle.symm ?_
 rw [← List.drop_eq_getElem_cons hj,List.take_append_drop]
theorem atI_ns (ns:List Nat) {k:Nat} (h:k < ns.length):atI (ns.map fun k:Nat => iT (k:Int)) (k:Int) = some (iT (ns[k]:Int)):=atI_nat (by rw [List.getElem?_map,List.getElem?_eq_getElem h]; rfl)
abbrev nnL (l:List (List Nat)):T:=.lst (l.map nL)
section
variable (W:Web)
def tiesUp (n p:Nat):List Nat:=(List.range n).filter fun t => (W.tie t).1 == p||(W.tie t).2 == p
def tbpUp (n:Nat):List (List Nat):=(List.range W.many).map (tiesUp W n)
theorem tiesUp_len (n p:Nat):(tiesUp W n p).length≤n:=by
 have:=List.length_filter_le (fun t => (W.tie t).1 == p||(W.tie t).2 == p) (List.range n)
 simpa [tiesUp] using this
def tbpHalf (n:Nat):List (List Nat):=(tbpUp W n).set (W.tie n).1 (tiesUp W n (W.tie n).1++[n])
theorem tbp_half (n:Nat) (h1:(W.tie n).1 < (W.tie n).2):(tbpHalf W n).set (W.tie n).2 (tiesUp W n (W.tie n).2++[n]) = tbpUp W (n + 1):=by
 apply List.ext_getElem
 ·simp [tbpHalf,tbpUp]
 ·intro p a1 a2
  simp only [tbpHalf,tbpUp,List.getElem_set,List.getElem_map,List.getElem_range,tiesUp,List.range_succ,List.filter_append]
  by_cases c2:(W.tie n).2 = p
  ·simp [c2]
  ·by_cases c1:(W.tie n).1 = p
   ·simp [c1,c2]
   ·simp [c1,c2]
end
section
variable (W:Web)
theorem ties_by_place (hW:W.Ok) (hm:W.many < 1000) (hn:W.ties.length < 1000):fn_ties_by_place [wT W] = .ret (nnL (tbpUp W W.ties.length)) [some (wT W)]:=by
 refine fn_to ?_
 show (g_ties_by_place [some (wT W),none,none,none,none,none]).sat _ _ _ _
 have b1:in62 (W.many:Int) = true:=in62_of (by omega) (by omega)
 have c:=lc_all (c:=c_ties_by_place_1) (l:=List.range W.many) (enc:=fun k:Nat => iT (k:Int)) (fun _ => .lst []) rfl (ρ0:=[some (wT W),none,none,none,none,none]) (ρ:=[some (wT W),none,none,none,none,none]) (w:=rng 0 W.many) (by simp [b1]) (rds_rngN W.many fun _ => True) rfl (by simp; omega) trivial
  (fun k _ => ⟨[some (wT W),none,none,some (iT (k:Int)),none,none],by simp,by simp,by simp [sizeLine_eq]⟩)
 have s1:g_ties_by_place_1 [some (wT W),none,none,none,none,none] = .nx [some (wT W),some (nnL (tbpUp W 0)),none,none,none,none]:=by
  rw [g_ties_by_place_1,sSet_ev,c]
  simp [tbpUp,tiesUp,nL]
 rw [g_ties_by_place,sat_seq,s1,sat_nx,sat_seq]
 have R:=rds_stE false ((W.ties.map tieD).map T.d) fun _ => True
 rw [numd_ties] at R
 refine sat_list (l:=List.range W.ties.length) rfl (ρ:=[some (wT W),some (nnL (tbpUp W 0)),none,none,none,none]) (by simp) R rfl
  (fun pre post ρ => ∃ y2 y4 y5,ρ = [some (wT W),some (nnL (tbpUp W pre.length)),y2,none,y4,y5]) (fun pre post ρ z => trivial) ⟨none,none,none,rfl⟩ (fun pre t post ρ e z => ?_) fun ρ z => ?_
 ·obtain ⟨y2,y4,y5,rfl⟩:=z
  have tp:t = pre.length∧t < W.ties.length:=by
   have e2:=congrArg (fun l => l[pre.length]?) e
   have l2:=congrArg List.length e
   simp at l2
   simp at e2
   rw [List.getElem?_range (by omega)] at e2
   cases e2
   exact ⟨rfl,by omega⟩
  obtain ⟨tp,lt⟩:=tp
  obtain ⟨o1,o2⟩:=hW.tie lt
  rw [← tp]
  rw [turn_to (ρ1:=[some (wT W),some (nnL (tbpUp W t)),some (iT (t:Int)),none,some (iT ((W.tie t).1:Int)),some (iT ((W.tie t).2:Int))]) (by simp [tieD])]
  have ln:=tiesUp_len W t
  have ga:((tbpUp W t).map nL)[(W.tie t).1]? = some (nL (tiesUp W t (W.tie t).1)):=by
   have:(W.tie t).1 < W.many:=by omega
   simp [tbpUp,this]
  have m1:=app_at (i:=1) (a:=4) (g:=Opd.vg (.nm 2)) (ρ:=[some (wT W),some (nnL (tbpUp W t)),some (iT (t:Int)),none,some (iT ((W.tie t).1:Int)),some (iT ((W.tie t).2:Int))]) (ts:=(tbpUp W t).map nL) (k:=(W.tie t).1) (y:=iT (t:Int)) rfl rfl ga (by have:=ln (W.tie t).1; simp; omega) (by simp) (by simp)
  have e1:((tbpUp W t).map nL).set (W.tie t).1 (T.lst ((tiesUp W t (W.tie t).1).map (fun k:Nat => iT (k:Int))++[iT (t:Int)])) = (tbpHalf W t).map nL:=by
   simp [tbpHalf,nL,List.map_set]
  rw [e1] at m1
  have gb:((tbpHalf W t).map nL)[(W.tie t).2]? = some (nL (tiesUp W t (W.tie t).2)):=by
   have q:(W.tie t).2 < W.many:=by omega
   have ne:(W.tie t).1≠(W.tie t).2:=by omega
   simp [tbpHalf,List.getElem?_set,ne,tbpUp,q]
  have m2:=app_at (i:=1) (a:=5) (g:=Opd.vg (.nm 2)) (ρ:=[some (wT W),some (nnL (tbpHalf W t)),some (iT (t:Int)),none,some (iT ((W.tie t).1:Int)),some (iT ((W.tie t).2:Int))]) (ts:=(tbpHalf W t).map nL) (k:=(W.tie t).2) (y:=iT (t:Int)) rfl rfl gb (by have:=ln (W.tie t).2; simp; omega) (by simp) (by simp)
  have e2:((tbpHalf W t).map nL).set (W.tie t).2 (T.lst ((tiesUp W t (W.tie t).2).map (fun k:Nat => iT (k:Int))++[iT (t:Int)])) = (tbpUp W (t + 1)).map nL:=by
   rw [← tbp_half W t o1]
   simp [nL,List.map_set]
  rw [e2] at m2
  have s2:g_ties_by_place_2_1 [some (wT W),some (nnL (tbpUp W t)),some (iT (t:Int)),none,some (iT ((W.tie t).1:Int)),some (iT ((W.tie t).2:Int))] = .nx [some (wT W),some (nnL (tbpHalf W t)),some (iT (t:Int)),none,some (iT ((W.tie t).1:Int)),some (iT ((W.tie t).2:Int))]:=by
   simp [-gMutL_ev,g_ties_by_place_2_1,m1]
  have s3:g_ties_by_place_2_2 [some (wT W),some (nnL (tbpHalf W t)),some (iT (t:Int)),none,some (iT ((W.tie t).1:Int)),some (iT ((W.tie t).2:Int))] = .nx [some (wT W),some (nnL (tbpUp W (t + 1))),some (iT (t:Int)),none,some (iT ((W.tie t).1:Int)),some (iT ((W.tie t).2:Int))]:=by
   simp [-gMutL_ev,g_ties_by_place_2_2,m2]
  rw [sSeq_ev,s2]
  simp only []
  rw [s3,sat_nx]
  exact ⟨_,_,_,by rw [List.length_append,List.length_singleton,← tp]⟩
 ·obtain ⟨y2,y4,y5,rfl⟩:=z
  simp [g_ties_by_place_3]
end
def tbD (W:Web):D:=.list ((List.range W.many).map fun p => .list ((tiesAt W p).map fun k:Nat => PyData.int (k:Int)))
abbrev sideF (s:Nat):T:=iT (s:Int)
abbrev cameF (q:Nat × Nat):T:=.d (.tuple [.int (q.1:Int),.int (q.2:Int)])
abbrev goT (W:Web) (S:List (Nat × Nat)) (C:List (Nat × Nat × Nat)):T:=.ins "Going" [("web",wT W),("by_place",.d (tbD W)),("side",dkT sideF S),("came",dkT cameF C)]
section
variable (W:Web)
theorem tbp_frz:frzOf (nnL (tbpUp W W.ties.length)) = some (tbD W):=by
 have h:=frzsOf_mapF (g:=fun p => nL (tiesUp W W.ties.length p)) (f:=fun p => PyData.list ((tiesAt W p).map fun k:Nat => PyData.int (k:Int))) (fun p => by simp [nL,tiesUp,tiesAt,Function.comp_def]) (List.range W.many)
 simp [nnL,tbpUp,tbD,Function.comp_def] at h ⊢
 exact h
theorem going_init (hW:W.Ok) (hm:W.many < 1000) (hn:W.ties.length < 1000):fn_Going___init [.ins "Going" [],wT W] = .ret (.d .none) [some (goT W [] []),some (wT W)]:=by
 have tb:=ties_by_place W hW hm hn
 have fz:=tbp_frz W
 refine fn_to ?_
 show (g_Going___init [some (.ins "Going" []),some (wT W)]).sat _ _ _ _
 have s1:g_Going___init_1 [some (.ins "Going" []),some (wT W)] = .nx [some (.ins "Going" [("web",wT W)]),some (wT W)]:=by
  simp [g_Going___init_1]
 have s2:g_Going___init_2 [some (.ins "Going" [("web",wT W)]),some (wT W)] = .nx [some (.ins "Going" [("web",wT W),("by_place",.d (tbD W))]),some (wT W)]:=by
  simp only [nnL] at tb fz
  cases ii:indepA ((tbpUp W W.ties.length).map nL) <;> simp [g_Going___init_2,tb,fz,ii]
 have s3:g_Going___init_3 [some (.ins "Going" [("web",wT W),("by_place",.d (tbD W))]),some (wT W)] = .nx [some (.ins "Going" [("web",wT W),("by_place",.d (tbD W)),("side",dkT sideF [])]),some (wT W)]:=by
  simp [g_Going___init_3,dkT,gNewK]
 have s4:g_Going___init_4 [some (.ins "Going" [("web",wT W),("by_place",.d (tbD W)),("side",dkT sideF [])]),some (wT W)] = .nx [some (goT W [] []),some (wT W)]:=by
  simp [g_Going___init_4,dkT,gNewK]
 rw [g_Going___init,sat_seq,s1,sat_nx,sat_seq,s2,sat_nx,sat_seq,s3,sat_nx,s4]
 simp
variable {W}
abbrev WT (W:Web) (S:List (Nat × Nat)) (C:List (Nat × Nat × Nat)) (x:Nat) (l:List Nat) (y3:Option T):Rho:=[some (goT W S C),some (iT (x:Int)),some (nL l),y3]
theorem way_to (S:List (Nat × Nat)) (C:List (Nat × Nat × Nat)) {x r:Nat} {L:List (Nat × Nat)} (h:Seg (fun z => C.lookup z) x L r) (e0:C.lookup r = none) (hl:L.length < 1000) :
  ∃ y,fn_Going_way_to [goT W S C,iT (x:Int)] = .ret (nL (L.map Prod.fst)) [some (goT W S C),y]:=by
 obtain ⟨u,back,e,y,rfl,rfl⟩:=fn_ret (n:=2) (k:=4) (st:=[2,3,1]) (g:=g_Going_way_to) (ts:=[goT W S C,iT (x:Int)]) (Q:=fun u back => ∃ y,u = nL (L.map Prod.fst)∧back = [some (goT W S C),y]) (by
  show (g_Going_way_to [some (goT W S C),some (iT (x:Int)),none,none]).sat _ _ _ _
  have s1:g_Going_way_to_1 [some (goT W S C),some (iT (x:Int)),none,none] = .nx (WT W S C x [] none):=by
   simp [g_Going_way_to_1,sizeLine_eq,nL]
  rw [g_Going_way_to,sat_seq,s1,sat_nx,sat_seq]
  refine sat_while rfl (fun n ρ => ∃ D M z y3,M.length = n∧L = D++M∧Seg (fun z => C.lookup z) z M r∧ρ = WT W S C z (D.map Prod.fst) y3) (n:=L.length) ⟨[],L,x,none,rfl,rfl,h,rfl⟩ fun n ρ z => ?_
  obtain ⟨D,M,z,y3,hn,hL2,sg,rfl⟩:=z
  have ki:=kIn_dk cameF false z C
  cases sg with
  | nil =>
   rw [e0] at ki
   refine ⟨false,WT W S C r (D.map Prod.fst) y3,by simp [ki],fun _ => ?_,fun h => (by cases h)⟩
   have eL:L = D:=by simpa using hL2
   rw [eL]
   simp [g_Going_way_to_3,nL]
  | @cons _ t y2 _ M2 e1 sg2 =>
   rw [e1] at ki
   refine ⟨true,WT W S C z (D.map Prod.fst) y3,by simp [ki],fun h => (by cases h),fun _ => ?_⟩
   have ix:=kIxA_dk cameF (l:=C) (u:=z) e1
   have zl:D.length < 16777216:=by
    have:=congrArg List.length hL2
    simp at this
    omega
   have s21:g_Going_way_to_2_1 (WT W S C z (D.map Prod.fst) y3) = .nx (WT W S C y2 (D.map Prod.fst) (iT (t:Int))):=by
    simp [-kIxA_ev,g_Going_way_to_2_1,ix]
   have s22:g_Going_way_to_2_2 (WT W S C y2 (D.map Prod.fst) (iT (t:Int))) = .nx (WT W S C y2 ((D++[(t,z)]).map Prod.fst) (iT (t:Int))):=by
    simp [g_Going_way_to_2_2,nL,sizeLine_eq,zl]
   rw [sat_seq,s21,sat_nx,s22]
   exact ⟨M2.length,by simp at hn; omega,D++[(t,z)],M2,y2,_,rfl,by simp [hL2],sg2,rfl⟩)
 exact ⟨y,e⟩
end
theorem atI_end {α:Type} (l:List α) (x:α):atI (l++[x]) (-1) = some x:=by
 have h:(1:Int)≤(l.length:Int) + 1:=by omega
 have e:(-1 + ((l.length:Int) + 1)).toNat = l.length:=by omega
 simp [atI,ixN,h,e]
theorem ix_end (l:List Nat) (t:Nat):kIxA (nL (l++[t])) (iT (-1)) = some (iT (t:Int)):=by
 have:=atI_end (l.map fun k:Nat => iT (k:Int)) (iT (t:Int))
 simp [nL,this]
theorem ke_nil (neg:Bool) (l:List Nat):kEqv true (nL l) (.lst []) = some (bT !l.isEmpty):=kEqv_le true (f:=fun k:Nat => PyData.int (k:Int)) (n:=0) (fun a => .int 0 _) l
section
variable {W:Web} {S:List (Nat × Nat)} {C:List (Nat × Nat × Nat)} {d:Nat→Nat}
abbrev RB (W:Web) (S:List (Nat × Nat)) (C:List (Nat × Nat × Nat)) (tie:Nat) (P Q:List Nat):Rho:=[some (goT W S C),some (iT (tie:Int)),some (iT ((W.tie tie).1:Int)),some (iT ((W.tie tie).2:Int)),some (nL P),some (nL Q)]
theorem ring_by (hW:W.Ok) {tie r:Nat} (ht:tie < W.ties.length) (T:Tree W (fun z => C.lookup z) d) {A B:List (Nat × Nat)} (h1:Seg (fun z => C.lookup z) (W.tie tie).1 A r) (h2:Seg (fun z => C.lookup z) (W.tie tie).2 B r) (e0:C.lookup r = none) (la:A.length < 500) (lb:B.length < 500) :
  ∃ P Q M,A = P++M∧B = Q++M∧(∀ P' Q' p,P = P'++[p]→Q = Q'++[p]→False)∧fn_Going_ring_by [goT W S C,iT (tie:Int)] = .ret (nL (P.map Prod.fst++(Q.map Prod.fst).reverse++[tie])) [some (goT W S C),some (iT (tie:Int))]:=by
 obtain ⟨u,back,e,P,Q,M,q1,q2,q3,rfl,rfl⟩:=fn_ret (n:=2) (k:=6) (st:=[2,3,4,5]) (g:=g_Going_ring_by) (ts:=[goT W S C,iT (tie:Int)]) (Q:=fun u back => ∃ P Q M,A = P++M∧B = Q++M∧(∀ P' Q' p,P = P'++[p]→Q = Q'++[p]→False)∧u = nL (P.map Prod.fst++(Q.map Prod.fst).reverse++[tie])∧back = [some (goT W S C),some (iT (tie:Int))]) (by
  show (g_Going_ring_by [some (goT W S C),some (iT (tie:Int)),none,none,none,none]).sat _ _ _ _
  have at1:=atI_ties W ht
  have s1:g_Going_ring_by_1 [some (goT W S C),some (iT (tie:Int)),none,none,none,none] = .nx [some (goT W S C),some (iT (tie:Int)),some (iT ((W.tie tie).1:Int)),some (iT ((W.tie tie).2:Int)),none,none]:=by
   simp only [tieD] at at1
   simp [g_Going_ring_by_1,at1,tieD]
  obtain ⟨y1,w1⟩:=way_to (W:=W) S C h1 e0 (by omega)
  obtain ⟨y2,w2⟩:=way_to (W:=W) S C h2 e0 (by omega)
  have s2:g_Going_ring_by_2 [some (goT W S C),some (iT (tie:Int)),some (iT ((W.tie tie).1:Int)),some (iT ((W.tie tie).2:Int)),none,none] = .nx (RB W S C tie (A.map Prod.fst) (B.map Prod.fst)):=by
   have i1:=indep_nL (A.map Prod.fst)
   have i2:=indep_nL (B.map Prod.fst)
   have b1:∀ m:Bool,backL m [.nm 0,.nm 2] [true,false] [some (goT W S C),y1] [some (goT W S C),some (iT (tie:Int)),some (iT ((W.tie tie).1:Int)),some (iT ((W.tie tie).2:Int)),none,none] = [some (goT W S C),some (iT (tie:Int)),some (iT ((W.tie tie).1:Int)),some (iT ((W.tie tie).2:Int)),none,none]:=fun m => by cases m <;> rfl
   have b2:∀ m:Bool,backL m [.nm 0,.nm 3] [true,false] [some (goT W S C),y2] [some (goT W S C),some (iT (tie:Int)),some (iT ((W.tie tie).1:Int)),some (iT ((W.tie tie).2:Int)),none,none] = [some (goT W S C),some (iT (tie:Int)),some (iT ((W.tie tie).1:Int)),some (iT ((W.tie tie).2:Int)),none,none]:=fun m => by cases m <;> rfl
   simp [g_Going_ring_by_2,fnN,w1,w2,i1,i2,b1,b2]
  rw [g_Going_ring_by,sat_seq,s1,sat_nx,sat_seq,s2,sat_nx,sat_seq]
  refine sat_while rfl (fun n ρ => ∃ P Q M,P.length = n∧A = P++M∧B = Q++M∧ρ = RB W S C tie (P.map Prod.fst) (Q.map Prod.fst)) (n:=A.length) ⟨A,B,[],rfl,by simp,by simp,rfl⟩ fun n ρ z => ?_
  obtain ⟨P,Q,M,hn,eA,eB,rfl⟩:=z
  have lP:P.length < 500:=by rw [eA] at la; simp at la; omega
  have lQ:Q.length < 500:=by rw [eB] at lb; simp at lb; omega
  have fin:∀ N:Rho→Prop,(∀ P' Q' p,P = P'++[p]→Q = Q'++[p]→False)→(g_Going_ring_by_4 (RB W S C tie (P.map Prod.fst) (Q.map Prod.fst))).sat N noC (fun u ρ => ∃ P Q M,A = P++M∧B = Q++M∧(∀ P' Q' p,P = P'++[p]→Q = Q'++[p]→False)∧u = nL (P.map Prod.fst++(Q.map Prod.fst).reverse++[tie])∧backS [2,3,4,5] 2 ρ = [some (goT W S C),some (iT (tie:Int))]) noX:=fun N no => by
   have k1:kRevL (nL (Q.map Prod.fst)) = some (nL (Q.map Prod.fst).reverse):=by simp [nL,Function.comp_def]
   have z1:(P.map Prod.fst).length + (Q.map Prod.fst).reverse.length≤1000000:=by simp; omega
   have k2:kAdd (nL (P.map Prod.fst)) (nL (Q.map Prod.fst).reverse) = some (nL (P.map Prod.fst++(Q.map Prod.fst).reverse)):=by
    have z:(P.map Prod.fst).length + (Q.map Prod.fst).reverse.length≤16777216:=by omega
    generalize P.map Prod.fst = l1 at z
    generalize (Q.map Prod.fst).reverse = l2 at z
    simp [nL,sizeLine_eq,z,Function.comp_def]
   have k3:kAdd (nL (P.map Prod.fst++(Q.map Prod.fst).reverse)) (.lst [iT (tie:Int)]) = some (nL (P.map Prod.fst++(Q.map Prod.fst).reverse++[tie])):=by
    have z:(P.map Prod.fst++(Q.map Prod.fst).reverse).length + 1≤16777216:=by rw [List.length_append]; omega
    generalize P.map Prod.fst++(Q.map Prod.fst).reverse = l1 at z
    simp [nL,sizeLine_eq,z,Function.comp_def]
   have s4:g_Going_ring_by_4 (RB W S C tie (P.map Prod.fst) (Q.map Prod.fst)) = .rt (nL (P.map Prod.fst++(Q.map Prod.fst).reverse++[tie])) (RB W S C tie (P.map Prod.fst) (Q.map Prod.fst)):=by
    generalize nL (P.map Prod.fst++(Q.map Prod.fst).reverse++[tie]) = R3 at k3
    generalize nL (P.map Prod.fst++(Q.map Prod.fst).reverse) = R2 at k2 k3
    generalize nL (Q.map Prod.fst).reverse = R1 at k1 k2
    simp [-kRevL_l,g_Going_ring_by_4,k1,k2,k3,sizeLine_eq]
   rw [s4]
   exact ⟨P,Q,M,eA,eB,no,rfl,by simp⟩
  have kP:=ke_nil true (P.map Prod.fst)
  have kQ:=ke_nil true (Q.map Prod.fst)
  rcases List.eq_nil_or_concat P with eP | ⟨P1,p,eP⟩
  ·rw [eP] at kP
   refine ⟨false,RB W S C tie (P.map Prod.fst) (Q.map Prod.fst),?_,fun _ => fin _ (fun P' Q' p h => by rw [eP] at h; simp at h),fun h => by cases h⟩
   rw [eP]
   simp only [List.map_nil,List.isEmpty_nil] at kP ⊢
   simp [kP,sizeLine_eq]
  ·rcases List.eq_nil_or_concat Q with eQ | ⟨Q1,q,eQ⟩
   ·have kP2:kEqv true (nL (P.map Prod.fst)) (.lst []) = some (bT true):=by rw [kP,eP]; simp
    rw [eQ] at kQ
    refine ⟨false,RB W S C tie (P.map Prod.fst) (Q.map Prod.fst),?_,fun _ => fin _ (fun P' Q' p _ h => by rw [eQ] at h; simp at h),fun h => by cases h⟩
    rw [eQ]
    simp only [List.map_nil,List.isEmpty_nil] at kQ ⊢
    simp [kP2,kQ,sizeLine_eq]
   ·have kP2:kEqv true (nL (P.map Prod.fst)) (.lst []) = some (bT true):=by rw [kP,eP]; simp
    have kQ2:kEqv true (nL (Q.map Prod.fst)) (.lst []) = some (bT true):=by rw [kQ,eQ]; simp
    have xP:kIxA (nL (P.map Prod.fst)) (iT (-1)) = some (iT (p.1:Int)):=by
     rw [eP,List.concat_eq_append,List.map_append]
     exact ix_end _ _
    have xQ:kIxA (nL (Q.map Prod.fst)) (iT (-1)) = some (iT (q.1:Int)):=by
     rw [eQ,List.concat_eq_append,List.map_append]
     exact ix_end _ _
    by_cases c:p.1 = q.1
    ·refine ⟨true,RB W S C tie (P.map Prod.fst) (Q.map Prod.fst),?_,fun h => (by cases h),fun _ => ?_⟩
     ·have c2:(p.1:Int) = (q.1:Int):=by omega
      simp [-kIxA_ev,kP2,kQ2,xP,xQ,c2,sizeLine_eq]
     ·obtain ⟨t,x⟩:=p
      obtain ⟨t',x'⟩:=q
      simp only at c
      subst c
      rw [List.concat_eq_append] at eP eQ
      have ea:A = P1++(t,x) :: M:=by rw [eA,eP]; simp
      have eb:B = Q1++(t,x') :: M:=by rw [eB,eQ]; simp
      have xx:x = x':=Seg.alike (x':=0) hW T (ea ▸ h1) (eb ▸ h2)
      subst xx
      have lP1:P.map Prod.fst = P1.map Prod.fst++[t]:=by rw [eP]; simp
      have lQ1:Q.map Prod.fst = Q1.map Prod.fst++[t]:=by rw [eQ]; simp
      rw [lP1,lQ1]
      have s31:g_Going_ring_by_3_1 (RB W S C tie (P1.map Prod.fst++[t]) (Q1.map Prod.fst++[t])) = .nx (RB W S C tie (P1.map Prod.fst) (Q1.map Prod.fst++[t])):=by
       simp [g_Going_ring_by_3_1,nL]
      have s32:g_Going_ring_by_3_2 (RB W S C tie (P1.map Prod.fst) (Q1.map Prod.fst++[t])) = .nx (RB W S C tie (P1.map Prod.fst) (Q1.map Prod.fst)):=by
       simp [g_Going_ring_by_3_2,nL]
      rw [sat_seq,s31,sat_nx,s32]
      exact ⟨P1.length,by rw [← hn,eP]; simp,P1,Q1,(t,x) :: M,rfl,ea,eb,rfl⟩
    ·refine ⟨false,RB W S C tie (P.map Prod.fst) (Q.map Prod.fst),?_,fun _ => fin _ (fun P' Q' z h h' => ?_),fun h => (by cases h)⟩
     ·have c2:¬ (p.1:Int) = (q.1:Int):=by omega
      simp [-kIxA_ev,kP2,kQ2,xP,xQ,c2,sizeLine_eq]
     ·rw [List.concat_eq_append] at eP eQ
      rw [eP] at h
      rw [eQ] at h'
      have a1:=(List.append_inj' h rfl).2
      have a2:=(List.append_inj' h' rfl).2
      simp only [List.cons.injEq,and_true] at a1 a2
      exact c (by rw [a1,a2]))
 exact ⟨P,Q,M,q1,q2,q3,e⟩
end
section
variable {W:Web} {S:List (Nat × Nat)} {C:List (Nat × Nat × Nat)} {ρ ρ1:Rho} {i u s:Nat} {g:G T}
theorem putC_d (kvs:List (Key × T)) (k:Key) (d:D):putC kvs k (.d d) = true:=by simp [putC,isD]
theorem put_side (h0:getS ρ 0 = some (goT W S C)) (hi:getS ρ i = some (iT (u:Int))) (hg:g ρ = .ok (sideF s) ρ) (hu:S.lookup u = none) (hl:S.length < 1000):sPutL 0 [.fld "Going" "side"] (.nm i) g ρ = .nx (ρ.set 0 (some (goT W (S++[(u,s)]) C))):=by
 have pt:=putT_dk sideF s hu
 have pc:putC (dk sideF S) (.inl (u:Int)) (sideF s) = true:=putC_d _ _ _
 have lt:(dk sideF S).length < 16777216:=by simp; omega
 have e1:pathOf ρ [.fld "Going" "side"] (goT W S C) = some [2]:=by simp [pathOf,Acc.at,keyIx,kid,List.findIdx?_cons]
 have e2:getP [2] (goT W S C) = some (.dK (dk sideF S)):=by simp [getP,kid,dkT]
 have e3:putA (sideF s) (some (.dK (dk sideF S))) [iT (u:Int)] = some (.dK (dk sideF (S++[(u,s)]))):=by
  generalize dk sideF (S++[(u,s)]) = S2 at pt
  generalize dk sideF S = S1 at pt pc lt
  simp [putA,keyOf,pc,pt,lt,sizeLine_eq]
 have e4:putP [2] (goT W S C) (.dK (dk sideF (S++[(u,s)]))) = goT W (S++[(u,s)]) C:=by
  simp [putP,kid,setKid,reval,dkT]
 simp only [sPutL_ev,hg,h0,s_ok,e1,stV,hi,e2,e3,e4]
theorem put_came {t h:Nat} (h0:getS ρ 0 = some (goT W S C)) (hi:getS ρ i = some (iT (u:Int))) (hg:g ρ = .ok (cameF (t,h)) ρ) (hu:C.lookup u = none) (hl:C.length < 1000):sPutL 0 [.fld "Going" "came"] (.nm i) g ρ = .nx (ρ.set 0 (some (goT W S (C++[(u,(t,h))])))):=by
 have pt:=putT_dk cameF (t,h) hu
 have pc:putC (dk cameF C) (.inl (u:Int)) (cameF (t,h)) = true:=putC_d _ _ _
 have lt:(dk cameF C).length < 16777216:=by simp; omega
 have e1:pathOf ρ [.fld "Going" "came"] (goT W S C) = some [3]:=by simp [pathOf,Acc.at,keyIx,kid,List.findIdx?_cons]
 have e2:getP [3] (goT W S C) = some (.dK (dk cameF C)):=by simp [getP,kid,dkT]
 have e3:putA (cameF (t,h)) (some (.dK (dk cameF C))) [iT (u:Int)] = some (.dK (dk cameF (C++[(u,(t,h))]))):=by
  generalize dk cameF (C++[(u,(t,h))]) = S2 at pt
  generalize dk cameF C = S1 at pt pc lt
  simp [putA,keyOf,pc,pt,lt,sizeLine_eq]
 have e4:putP [3] (goT W S C) (.dK (dk cameF (C++[(u,(t,h))]))) = goT W S (C++[(u,(t,h))]):=by
  simp [putP,kid,setKid,reval,dkT]
 simp only [sPutL_ev,hg,h0,s_ok,e1,stV,hi,e2,e3,e4]
structure Rn (W:Web) (root:Nat) (S0 S:List (Nat × Nat)) (C:List (Nat × Nat × Nat)) (q dn:List Nat):Prop where
 gi:Gi W S C
 ext:∃ N:List (Nat × Nat),S = S0++N∧N.map Prod.fst = q
 rt:C.lookup root = none
 up:∀ x,x∈q→∃ L,Seg (fun z => C.lookup z) x L root
 dn:∀ x,x∈dn→Done W S x
 rz:S.lookup root = some 0
theorem Rn.key {root:Nat} {S0:List (Nat × Nat)} {q dn:List Nat} (r:Rn W root S0 S C q dn) {x:Nat} (h:x∈q):∃ s,S.lookup x = some s:=by
 obtain ⟨N,rfl,e⟩:=r.ext
 exact lk_some (by rw [List.map_append,e]; exact List.mem_append_right _ h)
theorem Rn.add {root t here:Nat} {S0:List (Nat × Nat)} {q dn:List Nat} (hW:W.Ok) (r:Rn W root S0 S C q dn) (hh:here∈q) (a:W.at t here) (hu:S.lookup (far W t here) = none) (hs:S.lookup here = some s):Rn W root S0 (S++[(far W t here,1 - s)]) (C++[(far W t here,(t,here))]) (q++[far W t here]) dn:=by
 obtain ⟨f1,f2,f3⟩:=far_at hW a
 have ff:here = far W t (far W t here):=by
  rcases far_ends f1 a with e | e
  ·exact absurd e.symm f2
  ·exact e
 have g:=r.gi.add (t:=t) hu f3 f1 ff hs
 have cu:C.lookup (far W t here) = none:=by
  cases c:C.lookup (far W t here) with
  | none => rfl
  | some q =>
   obtain ⟨a,b,e,_⟩:=r.gi.two _ q.1 q.2 c
   rw [hu] at e
   cases e
 obtain ⟨N,e1,e2⟩:=r.ext
 have rne:root≠far W t here:=fun e => by
  obtain ⟨L,sg⟩:=r.up here hh
  have:∃ s,S.lookup root = some s:=by
   cases sg with
   | nil => exact ⟨s,hs⟩
   | cons e1 sg =>
    have key:∀ {x z:Nat} {L:List (Nat × Nat)},Seg (fun z => C.lookup z) x L z→(∃ s,S.lookup x = some s)→∃ s,S.lookup z = some s:=fun {x z L} h => by
     induction h with
     | nil => exact fun h => h
     | cons e _ ih =>
      intro _
      obtain ⟨_,s',_,e2,_⟩:=r.gi.two _ _ _ e
      exact ih ⟨s',e2⟩
    obtain ⟨_,s',_,e2,_⟩:=r.gi.two _ _ _ e1
    exact key sg ⟨s',e2⟩
  obtain ⟨s,e'⟩:=this
  rw [e,hu] at e'
  cases e'
 refine ⟨g,⟨N++[(far W t here,1 - s)],by rw [e1,List.append_assoc],by rw [List.map_append,e2]; rfl⟩,by rw [lk_old rne]; exact r.rt,fun x hx => ?_,fun x hx => (r.dn x hx).more,lk_app r.rz⟩
 rcases List.mem_append.mp hx with h | h
 ·obtain ⟨L,sg⟩:=r.up x h
  exact ⟨L,sg.more⟩
 ·have:x = far W t here:=by simpa using h
  subst this
  obtain ⟨L,sg⟩:=r.up here hh
  exact ⟨_,.cons (lk_new cu) sg.more⟩
abbrev GF (W:Web) (S:List (Nat × Nat)) (C:List (Nat × Nat × Nat)) (root:Nat) (ws:List Nat) (y3 y4 y5:Option T):Rho:=[some (goT W S C),some (iT (root:Int)),some (nL ws),y3,y4,y5]
theorem kSum_tieN (q:Nat × Nat):kSum (.d (tieD q)) = some (iT ((q.1:Int) + (q.2:Int))):=by
 simp [kSum,tieD,asInts]
theorem Gi.len (g:Gi W S C):S.length≤W.many:=by
 have:=nodup_le (m:=List.range W.many) g.nd fun x hx => by
  obtain ⟨p,hp,rfl⟩:=List.mem_map.mp hx
  exact List.mem_range.mpr (g.low p hp).1
 simpa using this
def GoTells (W:Web) (root:Nat) (S0:List (Nat × Nat)) (u:T) (back:Rho):Prop:=∃ S C,back = [some (goT W S C),some (iT (root:Int))]∧Gi W S C∧C.length≤S.length∧((u = .d .none∧(∀ x,x∈S.map Prod.fst→Done W S x)∧(∃ N,S = S0++N)∧S.lookup root = some 0∧∀ x,x∈S.map Prod.fst→x∈S0.map Prod.fst∨∃ L,Seg (fun z => C.lookup z) x L root) ∨
 ∃ (tie:Nat) (A B:List (Nat × Nat)) (s:Nat),u = iT (tie:Int)∧tie < W.ties.length∧C.lookup root = none∧Seg (fun z => C.lookup z) (W.tie tie).1 A root∧Seg (fun z => C.lookup z) (W.tie tie).2 B root∧S.lookup (W.tie tie).1 = some s∧S.lookup (W.tie tie).2 = some s∧S.lookup root = some 0)
theorem go_tie {root t here:Nat} {S0:List (Nat × Nat)} {q dn ws:List Nat} (hW:W.Ok) (hm:W.many < 1000) (hC:C.length≤S.length) (hw:ws.length < 1000) (r:Rn W root S0 S C q dn) (old:∀ x,x∈S0.map Prod.fst→Done W S0 x) (hh:here∈q) (a:W.at t here) (y5:Option T) :
  (∃ S' C' ws',Rn W root S0 S' C' (q++ws') dn∧C'.length≤S'.length∧ws'.length + S.length = S'.length∧(∃ M,S' = S++M)∧(∃ s s',S'.lookup here = some s∧S'.lookup (far W t here) = some s'∧s≠s') ∧
   sSeq g_Going_go_from_3_2_1 g_Going_go_from_3_2_2 (GF W S C root ws (iT (here:Int)) (iT (t:Int)) y5) = .nx (GF W S' C' root (ws++ws') (iT (here:Int)) (iT (t:Int)) (iT (far W t here:Nat)))) ∨
  (∃ s,S.lookup here = some s∧S.lookup (far W t here) = some s∧sSeq g_Going_go_from_3_2_1 g_Going_go_from_3_2_2 (GF W S C root ws (iT (here:Int)) (iT (t:Int)) y5) = .rt (iT (t:Int)) (GF W S C root ws (iT (here:Int)) (iT (t:Int)) (iT (far W t here:Nat)))):=by
 obtain ⟨s,hs⟩:=r.key hh
 have s2:=(r.gi.low _ (lk_mem hs)).2
 simp only at s2
 have lS:=r.gi.len
 have at2:=atI_ties W a.1
 have ksum:=kSum_tieN (W.tie t)
 have s1:g_Going_go_from_3_2_1 (GF W S C root ws (iT (here:Int)) (iT (t:Int)) y5) = .nx (GF W S C root ws (iT (here:Int)) (iT (t:Int)) (iT (far W t here:Nat))):=by
  have f:(((W.tie t).1:Int) + ((W.tie t).2:Int)) - (here:Int) = ((far W t here:Nat):Int):=by
   unfold far
   obtain ⟨_,at1⟩:=a
   split <;> omega
  simp [g_Going_go_from_3_2_1,at2,ksum,f]
 have ki:=kIn_dk sideF true (far W t here) S
 have x1:=kIxA_dk sideF hs
 cases c:S.lookup (far W t here) with
 | none =>
  left
  rw [c] at ki
  have cu:C.lookup (far W t here) = none:=by
   cases c2:C.lookup (far W t here) with
   | none => rfl
   | some q =>
    obtain ⟨a,b,e,_⟩:=r.gi.two _ q.1 q.2 c2
    rw [c] at e
    cases e
  refine ⟨_,_,[far W t here],r.add hW hh a c hs,by simp; omega,by simp; omega,⟨_,rfl⟩,⟨s,1 - s,lk_app hs,lk_new c,by omega⟩,?_⟩
  have sv:(1:Int) - (s:Int) = ((1 - s:Nat):Int):=by omega
  have p1:=put_side (W:=W) (S:=S) (C:=C) (ρ:=GF W S C root ws (iT (here:Int)) (iT (t:Int)) (iT (far W t here:Nat))) (i:=5) (u:=far W t here) (s:=1 - s) (g:=gP2 kSubI (.con (.int 1) (.int 1)) (.pk (gIx kIxA (.pk (gFld 0 "Going" "side")) (.nm 3)))) rfl rfl (by
   simp [-kIxA_ev,x1,sv]) c (by omega)
  have p2:=put_came (W:=W) (S:=S++[(far W t here,1 - s)]) (C:=C) (ρ:=GF W (S++[(far W t here,1 - s)]) C root ws (iT (here:Int)) (iT (t:Int)) (iT (far W t here:Nat))) (i:=5) (u:=far W t here) (t:=t) (h:=here) (g:=gTup [(.nm 4),(.nm 3)]) rfl rfl (by
   simp [sizeLine_eq]) cu (by omega)
  have s21:g_Going_go_from_3_2_2_t_1 (GF W S C root ws (iT (here:Int)) (iT (t:Int)) (iT (far W t here:Nat))) = .nx (GF W (S++[(far W t here,1 - s)]) C root ws (iT (here:Int)) (iT (t:Int)) (iT (far W t here:Nat))):=p1
  have s22:g_Going_go_from_3_2_2_t_2 (GF W (S++[(far W t here,1 - s)]) C root ws (iT (here:Int)) (iT (t:Int)) (iT (far W t here:Nat))) = .nx (GF W (S++[(far W t here,1 - s)]) (C++[(far W t here,(t,here))]) root ws (iT (here:Int)) (iT (t:Int)) (iT (far W t here:Nat))):=p2
  have z:ws.length < 16777216:=by omega
  have s23:∀ S C,g_Going_go_from_3_2_2_t_3 (GF W S C root ws (iT (here:Int)) (iT (t:Int)) (iT (far W t here:Nat))) = .nx (GF W S C root (ws++[far W t here]) (iT (here:Int)) (iT (t:Int)) (iT (far W t here:Nat))):=fun S C => by
   simp [g_Going_go_from_3_2_2_t_3,nL,sizeLine_eq,z]
  have s20:g_Going_go_from_3_2_2 (GF W S C root ws (iT (here:Int)) (iT (t:Int)) (iT (far W t here:Nat))) = (sSeq g_Going_go_from_3_2_2_t_1 (sSeq g_Going_go_from_3_2_2_t_2 g_Going_go_from_3_2_2_t_3)) (GF W S C root ws (iT (here:Int)) (iT (t:Int)) (iT (far W t here:Nat))):=by
   simp only [g_Going_go_from_3_2_2]
   simp [-sSeq_ev,ki]
  simp only [sSeq_ev,s1,s20,s21,s22,s23]
 | some s' =>
  rw [c] at ki
  have x2:=kIxA_dk sideF c
  by_cases e:s = s'
  ·right
   subst e
   refine ⟨s,hs,rfl,?_⟩
   have s2:g_Going_go_from_3_2_2 (GF W S C root ws (iT (here:Int)) (iT (t:Int)) (iT (far W t here:Nat))) = .rt (iT (t:Int)) (GF W S C root ws (iT (here:Int)) (iT (t:Int)) (iT (far W t here:Nat))):=by
    simp [-kIxA_ev,g_Going_go_from_3_2_2,g_Going_go_from_3_2_2_e_1,g_Going_go_from_3_2_2_e_1_t_1,ki,x1,x2]
   simp only [sSeq_ev,s1,s2]
  ·left
   refine ⟨S,C,[],by simpa using r,hC,by simp,⟨[],by simp⟩,⟨s,s',hs,c,e⟩,?_⟩
   have ne:¬ (s':Int) = (s:Int):=by omega
   have s2:g_Going_go_from_3_2_2 (GF W S C root ws (iT (here:Int)) (iT (t:Int)) (iT (far W t here:Nat))) = .nx (GF W S C root ws (iT (here:Int)) (iT (t:Int)) (iT (far W t here:Nat))):=by
    simp [-kIxA_ev,g_Going_go_from_3_2_2,g_Going_go_from_3_2_2_e_1,ki,x1,x2,ne]
   rw [List.append_nil]
   simp only [sSeq_ev,s1,s2]
end
section
variable {W:Web} {S0:List (Nat × Nat)} {C0:List (Nat × Nat × Nat)} {root:Nat}
theorem Rn.cl {S:List (Nat × Nat)} {C:List (Nat × Nat × Nat)} {q dn:List Nat} (r:Rn W root S0 S C q dn) (hW:W.Ok) (old:∀ x,x∈S0.map Prod.fst→Done W S0 x) {t here:Nat} (hh:here∈q) (a:W.at t here) (hf:far W t here∈S.map Prod.fst):far W t here∈q:=by
 obtain ⟨N,e1,e2⟩:=r.ext
 rw [e1,List.map_append,e2] at hf
 rcases List.mem_append.mp hf with h | h
 ·exfalso
  obtain ⟨f1,f2,f3⟩:=far_at hW a
  have ff:far W t (far W t here) = here:=by
   rcases far_ends f1 a with e | e
   ·exact absurd e.symm f2
   ·exact e.symm
  obtain ⟨s,s',_,e3,_⟩:=old _ h t f1
  rw [ff] at e3
  have h0:here∈S0.map Prod.fst:=List.mem_map.mpr ⟨(here,s'),lk_mem e3,rfl⟩
  have nd:=r.gi.nd
  rw [e1,List.map_append,e2,List.nodup_append] at nd
  exact nd.2.2 _ h0 _ hh rfl
 ·exact h
theorem ix_tb {p:Nat} (h:p < W.many):kIxA (.d (tbD W)) (iT (p:Int)) = some (.d (.list ((tiesAt W p).map fun k:Nat => PyData.int (k:Int)))):=by
 have:atI ((List.range W.many).map fun p => PyData.list ((tiesAt W p).map fun k:Nat => PyData.int (k:Int))) (p:Int) = some (PyData.list ((tiesAt W p).map fun k:Nat => PyData.int (k:Int))):=atI_nat (by rw [List.getElem?_map,List.getElem?_range h]; rfl)
 simp [tbD,this]
theorem go_from (hW:W.Ok) (hm:W.many < 1000) (hn:W.ties.length < 1000) (g0:Gi W S0 C0) (c0:C0.length≤S0.length) (old:∀ x,x∈S0.map Prod.fst→Done W S0 x) (lr:root < W.many) (hr:S0.lookup root = none) :
  ∃ u back,fn_Going_go_from [goT W S0 C0,iT (root:Int)] = .ret u back∧GoTells W root S0 u back:=by
 refine fn_ret (n:=2) (k:=6) (st:=[2,3,4,5]) (g:=g_Going_go_from) (ts:=[goT W S0 C0,iT (root:Int)]) (Q:=fun u back => GoTells W root S0 u back) ?_
 show (g_Going_go_from [some (goT W S0 C0),some (iT (root:Int)),none,none,none,none]).sat _ _ _ _
 have l0:=g0.len
 have s1:g_Going_go_from_1 [some (goT W S0 C0),some (iT (root:Int)),none,none,none,none] = .nx [some (goT W (S0++[(root,0)]) C0),some (iT (root:Int)),none,none,none,none] :=
  put_side (W:=W) (S:=S0) (C:=C0) (ρ:=[some (goT W S0 C0),some (iT (root:Int)),none,none,none,none]) (i:=1) (u:=root) (s:=0) (g:=Opd.vg (.con (.int 0) (.int 0))) rfl rfl (by simp) hr (by omega)
 have s2:g_Going_go_from_2 [some (goT W (S0++[(root,0)]) C0),some (iT (root:Int)),none,none,none,none] = .nx (GF W (S0++[(root,0)]) C0 root [root] none none none):=by
  simp [g_Going_go_from_2,sizeLine_eq,nL]
 obtain ⟨g1,cr⟩:=g0.root hr lr
 rw [g_Going_go_from,sat_seq,s1,sat_nx,sat_seq,s2,sat_nx,sat_seq]
 refine sat_while rfl (fun n ρ => ∃ S C dn ws y3 y4 y5,n = ws.length + (W.many - S.length)∧Rn W root S0 S C (dn++ws) dn∧C.length≤S.length∧root∈dn++ws∧ρ = GF W S C root ws y3 y4 y5) (n:=1 + (W.many - (S0++[(root,0)]).length)) ⟨S0++[(root,0)],C0,[],[root],none,none,none,rfl,⟨g1,⟨[(root,0)],rfl,rfl⟩,cr,fun x hx => ⟨[],by
   have:x = root:=by simpa using hx
   subst this
   exact .nil _⟩,by simp,lk_new hr⟩,by simp; omega,by simp,rfl⟩ fun n ρ z => ?_
 obtain ⟨S,C,dn,ws,y3,y4,y5,en,r,lc,rm,rfl⟩:=z
 have lS:=r.gi.len
 have lq:(dn++ws).length≤S.length:=by
  obtain ⟨N,e1,e2⟩:=r.ext
  rw [← e2,e1]
  simp
 cases hw:ws with
 | nil =>
  refine ⟨false,GF W S C root [] y3 y4 y5,by simp [nL],fun _ => ?_,fun h => by cases h⟩
  have s4:g_Going_go_from_4 (GF W S C root [] y3 y4 y5) = .rt (.d .none) (GF W S C root [] y3 y4 y5):=by simp [g_Going_go_from_4]
  rw [s4]
  subst hw
  rw [List.append_nil] at r rm
  obtain ⟨N,e1,e2⟩:=r.ext
  refine ⟨S,C,by simp,r.gi,lc,.inl ⟨rfl,fun x hx => ?_,⟨N,e1⟩,r.rz,fun x hx => ?_⟩⟩
  ·rw [e1,List.map_append,e2] at hx
   rcases List.mem_append.mp hx with h | h
   ·rw [e1]
    exact (old x h).more
   ·exact r.dn x h
  ·rw [e1,List.map_append,e2] at hx
   rcases List.mem_append.mp hx with h | h
   ·exact .inl h
   ·exact .inr (r.up x h)
 | cons here ws1 =>
  subst hw
  have lw:ws1.length < 1000:=by simp at lq; omega
  refine ⟨true,GF W S C root (here :: ws1) y3 y4 y5,by simp [nL],fun h => (by cases h),fun _ => ?_⟩
  have s31:g_Going_go_from_3_1 (GF W S C root (here :: ws1) y3 y4 y5) = .nx (GF W S C root ws1 (iT (here:Int)) y4 y5):=by
   have pa:mPopAt (iT (here:Int) :: ws1.map fun k:Nat => iT (k:Int)) [iT 0] = some (iT (here:Int),ws1.map fun k:Nat => iT (k:Int)):=by
    have e:seqIndex? 0 ((ws1.map fun k:Nat => iT (k:Int)).length + 1) = some 0:=by
     unfold seqIndex?
     simp
    simp only [List.length_map] at e
    simp [mPopAt,e]
   simp [g_Going_go_from_3_1,nL,pa]
  have hq:here∈dn++here :: ws1:=by simp
  obtain ⟨sh,esh⟩:=r.key hq
  have lh:=(r.gi.low _ (lk_mem esh)).1
  have tb:=ix_tb (W:=W) lh
  have tl:(tiesAt W here).length < 1000:=by
   have:=List.length_filter_le (fun t => (W.tie t).1 == here||(W.tie t).2 == here) (List.range W.ties.length)
   simp only [List.length_range] at this
   simp only [tiesAt]
   omega
  rw [sat_seq,s31,sat_nx]
  refine sat_list (l:=tiesAt W here) (enc:=fun k:Nat => iT (k:Int)) rfl (ρ:=GF W S C root ws1 (iT (here:Int)) y4 y5) (w:=Src.it ⟨none,true,(tiesAt W here).map fun k:Nat => iT (k:Int)⟩) (by
    simp [-kIxA_ev,tb,Function.comp_def]) (rds_st true _ fun _ => True) rfl
   (fun pre post ρ => ∃ S' C' ws' y4 y5,Rn W root S0 S' C' (dn++here :: (ws1++ws')) dn∧C'.length≤S'.length∧ws'.length + S.length = S'.length∧(∀ t,t∈pre→∃ s s',S'.lookup here = some s∧S'.lookup (far W t here) = some s'∧s≠s')∧ρ = GF W S' C' root (ws1++ws') (iT (here:Int)) y4 y5) (fun _ _ _ _ => trivial)
   ⟨S,C,[],y4,y5,by rw [List.append_nil]; exact r,lc,by simp,by simp,by rw [List.append_nil]⟩ (fun pre t post ρ e z => ?_) fun ρ z => ?_
  ·obtain ⟨S',C',ws',y4,y5,r',lc',le',hp,rfl⟩:=z
   have mt:t∈tiesAt W here:=by rw [e]; simp
   have a:W.at t here:=by
    obtain ⟨a1,a2⟩:=mem_tiesAt.mp mt
    exact ⟨a1,a2⟩
   have lS':=r'.gi.len
   have hq':here∈dn++here :: (ws1++ws'):=by simp
   have lw':(ws1++ws').length < 1000:=by
    obtain ⟨N,e1,e2⟩:=r'.ext
    have h1:=congrArg List.length e2
    have h2:=congrArg List.length e1
    simp at h1 h2 ⊢
    omega
   rw [turn_setS (by simp)]
   simp only [List.set_cons_succ,List.set_cons_zero]
   rcases go_tie (root:=root) (S0:=S0) (y5:=y5) hW hm lc' lw' r' old hq' a with ⟨S2,C2,w2,r2,lc2,le2,⟨M,eM⟩,ht,ev⟩ | ⟨s,e1,e2,ev⟩
   ·rw [ev]
    refine ⟨S2,C2,ws'++w2,_,_,by simpa using r2,lc2,by rw [List.length_append]; omega,fun t' h => ?_,by rw [List.append_assoc]⟩
    (rcases List.mem_append.mp h with h | h)
    ·obtain ⟨s,s',e1,e2,ne⟩:=hp t' h
     rw [eM]
     exact ⟨s,s',lk_app e1,lk_app e2,ne⟩
    ·have:t' = t:=by simpa using h
     rw [this]
     exact ht
   ·rw [ev]
    have fk:=r'.cl hW old hq' a (List.mem_map.mpr ⟨(far W t here,s),lk_mem e2,rfl⟩)
    obtain ⟨LA,sa⟩:=r'.up here hq'
    obtain ⟨LB,sb⟩:=r'.up _ fk
    refine ⟨S',C',by simp,r'.gi,lc',.inr ?_⟩
    obtain ⟨lt,a2⟩:=a
    have tt:=hW.tie lt
    by_cases c:(W.tie t).1 = here
    ·have f:far W t here = (W.tie t).2:=by simp [far,c]
     rw [f] at e2 sb
     rw [← c] at e1 sa
     exact ⟨t,LA,LB,s,rfl,lt,r'.rt,sa,sb,e1,e2,r'.rz⟩
    ·have f:far W t here = (W.tie t).1:=by simp [far,c]
     have c2:(W.tie t).2 = here:=by
      rcases a2 with a2 | a2
      ·exact absurd a2 c
      ·exact a2
     rw [f] at e2 sb
     rw [← c2] at e1 sa
     exact ⟨t,LB,LA,s,rfl,lt,r'.rt,sb,sa,e2,e1,r'.rz⟩
  ·obtain ⟨S',C',ws',y4,y5,r',lc',le',hp,rfl⟩:=z
   have lS':=r'.gi.len
   have dh:Done W S' here:=fun t a => hp t (mem_tiesAt.mpr ⟨a.1,a.2⟩)
   refine ⟨(ws1++ws').length + (W.many - S'.length),by rw [en]; simp; omega,S',C',dn++[here],ws1++ws',_,y4,y5,rfl,⟨r'.gi,?_,r'.rt,?_,fun x hx => ?_,r'.rz⟩,lc',?_,rfl⟩
   ·simpa using r'.ext
   ·simpa using r'.up
   ·rcases List.mem_append.mp hx with h | h
    ·exact r'.dn x h
    ·have:x = here:=by simpa using h
     rw [this]
     exact dh
   ·rcases List.mem_append.mp rm with h | h
    ·simp [h]
    ·rcases List.mem_cons.mp h with h | h
     ·simp [h]
     ·simp [h]
end
theorem Seg.rea {W:Web} {C:Nat→Option (Nat × Nat)} {d:Nat→Nat} (T:Tree W C d) {x r:Nat} {L:List (Nat × Nat)} (h:Seg C x L r):Rea W x r:=by
 induction h with
 | nil => exact .refl _
 | cons e _ ih =>
  obtain ⟨a,f⟩:=T.at' _ _ _ e
  exact .head a (f ▸ ih)
theorem Rea.closed {W:Web} {S:List (Nat × Nat)} (cl:∀ x,x∈S.map Prod.fst→Done W S x) {x y:Nat} (h:Rea W x y) (hx:x∈S.map Prod.fst):y∈S.map Prod.fst:=by
 induction h with
 | refl => exact hx
 | head a _ ih =>
  obtain ⟨_,s',_,e,_⟩:=cl _ hx _ a
  exact ih (List.mem_map.mpr ⟨(_,s'),lk_mem e,rfl⟩)
structure Sided (W:Web) (c:Nat→Nat):Prop where
 two:∀ p,p < W.many→c p < 2
 far':∀ t,t < W.ties.length→c (W.tie t).1≠c (W.tie t).2
 rt:∀ x,x < W.many→∃ r,Rea W x r∧c r = 0∧∀ y,Rea W r y→r≤y
structure Odd (W:Web) (R:List Nat):Prop where
 wk:∃ x V,Wlk W x R V x∧V.Nodup
 odd:R.length % 2 = 1
 len:3≤R.length
def TwoTells (W:Web) (u:T):Prop:=(∃ c,Sided W c∧u = .tup [.d (.str "sides"),nL ((List.range W.many).map c)])∨∃ R,Odd W R∧u = .tup [.d (.str "ring"),nL R]
section
variable {W:Web}
theorem odd_of {S:List (Nat × Nat)} {C:List (Nat × Nat × Nat)} {root tie s:Nat} {A B P Q M:List (Nat × Nat)} (hW:W.Ok) (g:Gi W S C) (ht:tie < W.ties.length) (e0:C.lookup root = none) (h1:Seg (fun z => C.lookup z) (W.tie tie).1 A root) (h2:Seg (fun z => C.lookup z) (W.tie tie).2 B root) (e1:S.lookup (W.tie tie).1 = some s) (e2:S.lookup (W.tie tie).2 = some s) (hr:∃ b,S.lookup root = some b)
  (q1:A = P++M) (q2:B = Q++M) (no:∀ P' Q' p,P = P'++[p]→Q = Q'++[p]→False):Odd W (P.map Prod.fst++(Q.map Prod.fst).reverse++[tie]):=by
 obtain ⟨d,T⟩:=g.tr
 obtain ⟨b,eb⟩:=hr
 have tt:=hW.tie ht
 have p1:=h1.par g e1 eb
 have p2:=h2.par g e2 eb
 subst q1 q2
 have hf:far W tie (W.tie tie).2 = (W.tie tie).1:=by
  unfold far
  rw [if_neg (by omega)]
 obtain ⟨V,w,nd⟩:=ring_of hW T e0 h1 h2 ⟨ht,.inr rfl⟩ hf no
 have nz:P.length + Q.length≠0:=fun z => by
  have z1:P = []:=List.length_eq_zero_iff.mp (by omega)
  have z2:Q = []:=List.length_eq_zero_iff.mp (by omega)
  subst z1 z2
  have:(W.tie tie).1 = (W.tie tie).2:=by
   cases h1 with
   | nil =>
    generalize (W.tie tie).2 = o at h2
    cases h2
    rfl
   | cons _ _ =>
    generalize (W.tie tie).2 = o at h2
    cases h2
    rfl
  omega
 rw [List.length_append] at p1 p2
 refine ⟨⟨_,V,w,nd⟩,?_,?_⟩
 ·simp only [List.length_append,List.length_map,List.length_reverse,List.length_cons,List.length_nil]
  omega
 ·simp only [List.length_append,List.length_map,List.length_reverse,List.length_cons,List.length_nil]
  omega
abbrev TS (W:Web) (S:List (Nat × Nat)) (C:List (Nat × Nat × Nat)) (y2 y3:Option T):Rho:=[some (wT W),some (goT W S C),y2,y3]
theorem two_sides (hW:W.Ok) (hm:W.many < 400) (hn:W.ties.length < 1000):∃ u,fn_two_sides [wT W] = .ret u [some (wT W)]∧TwoTells W u:=by
 obtain ⟨u,back,e,h,rfl⟩:=fn_ret (n:=1) (k:=4) (st:=[1,2,3]) (g:=g_two_sides) (ts:=[wT W]) (Q:=fun u back => TwoTells W u∧back = [some (wT W)]) (by
  show (g_two_sides [some (wT W),none,none,none]).sat _ _ _ _
  have gi:=going_init W hW (by omega) hn
  have s1:g_two_sides_1 [some (wT W),none,none,none] = .nx (TS W [] [] none none):=by
   have b0:∀ m:Bool,backL m [.nm 0] [false] [some (wT W)] [some (wT W),none,none,none] = [some (wT W),none,none,none]:=fun m => by cases m <;> rfl
   simp [g_two_sides_1,mkF,gi,b0]
  rw [g_two_sides,sat_seq,s1,sat_nx,sat_seq]
  refine sat_rng (n:=W.many) rfl (ρ:=TS W [] [] none none) (by
    have z:in62 (W.many:Int) = true:=in62_of (by omega) (by omega)
    simp [z]) (fun k ρ => ∃ S C y2 y3,Gi W S C∧C.length≤S.length∧(∀ x,x∈S.map Prod.fst→Done W S x)∧(∀ p,p < k→p∈S.map Prod.fst)∧(∀ x,x∈S.map Prod.fst→∃ r,Rea W x r∧S.lookup r = some 0∧∀ y,Rea W r y→r≤y)∧ρ = TS W S C y2 y3)
    ⟨[],[],none,none,⟨by simp,by simp,fun x t y h => (by simp at h),⟨fun _ => 0,⟨fun x t y h => (by simp at h),fun x t y h => (by simp at h)⟩⟩⟩,by simp,by simp,fun p hp => by omega,by simp,rfl⟩ (fun k hk ρ z => ?_) fun ρ z => ?_
  ·obtain ⟨S,C,y2,y3,g,lc,cl,lo,rt,rfl⟩:=z
   rw [turn_setS (by simp)]
   simp only [List.set_cons_succ,List.set_cons_zero]
   have ki:=kIn_dk sideF true k S
   cases c:S.lookup k with
   | some s =>
    rw [c] at ki
    have s2:g_two_sides_2_1 (TS W S C (iT (k:Int)) y3) = .nx (TS W S C (iT (k:Int)) y3):=by
     simp [g_two_sides_2_1,ki]
    rw [s2]
    refine ⟨S,C,_,_,g,lc,cl,fun p hp => ?_,rt,rfl⟩
    by_cases e:p = k
    ·rw [e]
     exact List.mem_map.mpr ⟨(k,s),lk_mem c,rfl⟩
    ·exact lo p (by omega)
   | none =>
    rw [c] at ki
    obtain ⟨u,back,ev,S',C',rfl,g',lc',tell⟩:=go_from hW (by omega) hn g lc cl hk c
    have s20:g_two_sides_2_1 (TS W S C (iT (k:Int)) y3) = (sSeq g_two_sides_2_1_t_1 g_two_sides_2_1_t_2) (TS W S C (iT (k:Int)) y3):=by
     simp only [g_two_sides_2_1]
     simp [-sSeq_ev,ki]
    have b1:∀ m:Bool,backL m [.nm 1,.nm 2] [true,false] [some (goT W S' C'),some (iT (k:Int))] (TS W S C (iT (k:Int)) y3) = TS W S' C' (iT (k:Int)) y3:=fun m => by cases m <;> rfl
    have s21:imm (match u with | .d x => x | _ => .none) = true→isNone u = isNone u→g_two_sides_2_1_t_1 (TS W S C (iT (k:Int)) y3) = .nx (TS W S' C' (iT (k:Int)) (some u)):=fun _ _ => by
     simp [g_two_sides_2_1_t_1,fnN,ev,b1]
    rw [s20,sat_seq,s21 (by rcases tell with ⟨rfl,_⟩ | ⟨t,_,_,_,rfl,_⟩ <;> rfl) rfl,sat_nx]
    rcases tell with ⟨rfl,cl',⟨N,eN⟩,rz,from'⟩ | ⟨tie,A,B,s,rfl,ht,e0,h1,h2,e1,e2,rz⟩
    ·have s22:g_two_sides_2_1_t_2 (TS W S' C' (iT (k:Int)) (some (.d .none))) = .nx (TS W S' C' (iT (k:Int)) (some (.d .none))):=by
      have:isNone (.d .none) = true:=rfl
      simp [g_two_sides_2_1_t_2,this]
     rw [s22]
     obtain ⟨d,T⟩:=g'.tr
     refine ⟨S',C',_,_,g',lc',cl',fun p hp => ?_,fun x hx => ?_,rfl⟩
     ·by_cases e:p = k
      ·rw [e]
       exact List.mem_map.mpr ⟨(k,0),lk_mem rz,rfl⟩
      ·rw [eN,List.map_append]
       exact List.mem_append_left _ (lo p (by omega))
     ·rcases from' x hx with h | ⟨L,sg⟩
      ·obtain ⟨r,a1,a2,a3⟩:=rt x h
       exact ⟨r,a1,by rw [eN]; exact lk_app a2,a3⟩
      ·refine ⟨k,sg.rea T,rz,fun y hy => ?_⟩
       by_cases lt:k≤y
       ·exact lt
       ·exact absurd (Rea.closed cl (hy.symm hW) (lo y (by omega))) (lk_none.mp c)
    ·have la:=h1.many g' hW
     have lb:=h2.many g' hW
     have lS:=g'.len
     obtain ⟨d,T⟩:=g'.tr
     obtain ⟨P,Q,M,q1,q2,no,ev2⟩:=ring_by (W:=W) (S:=S') (C:=C') (d:=d) hW ht T h1 h2 e0 (by omega) (by omega)
     have od:=odd_of hW g' ht e0 h1 h2 e1 e2 ⟨0,rz⟩ q1 q2 no
     generalize P.map Prod.fst++(Q.map Prod.fst).reverse++[tie] = R at ev2 od
     have b2:∀ m:Bool,backL m [.nm 1,.nm 3] [true,false] [some (goT W S' C'),some (iT (tie:Int))] (TS W S' C' (iT (k:Int)) (some (iT (tie:Int)))) = TS W S' C' (iT (k:Int)) (some (iT (tie:Int))):=fun m => by cases m <;> rfl
     have ir:=indep_nL R
     have s22:g_two_sides_2_1_t_2 (TS W S' C' (iT (k:Int)) (some (iT (tie:Int)))) = .rt (.tup [.d (.str "ring"),nL R]) (TS W S' C' (iT (k:Int)) (some (iT (tie:Int)))):=by
      have:isNone (iT (tie:Int)) = false:=rfl
      have a1:asDs [nL R] = none:=rfl
      simp [g_two_sides_2_1_t_2,g_two_sides_2_1_t_2_t_1,a1,this,fnN,ev2,b2,ir,sizeLine_eq]
     rw [s22]
     exact ⟨.inr ⟨R,od,rfl⟩,by simp⟩
  ·obtain ⟨S,C,y2,y3,g,lc,cl,lo,rt,rfl⟩:=z
   have key:∀ p,p < W.many→S.lookup p = some ((S.lookup p).getD 0):=fun p hp => by
    obtain ⟨s,e⟩:=lk_some (lo p hp)
    rw [e]
    rfl
   have c:=lc_all (c:=c_two_sides_1) (l:=List.range W.many) (enc:=fun k:Nat => iT (k:Int)) (fun p => iT (((S.lookup p).getD 0:Nat):Int)) rfl (ρ0:=TS W S C y2 y3) (ρ:=TS W S C y2 y3) (w:=rng 0 W.many) (by
    have i:in62 (W.many:Int) = true:=in62_of (by omega) (by omega)
    simp [i]) (rds_rngN _ fun _ => True) rfl (by simp; omega) trivial fun p hp => by
     have x1:=kIxA_dk sideF (key p (by simpa using hp))
     exact ⟨TS W S C (iT (p:Int)) y3,by simp,by simp,by simp [-kIxA_ev,x1]⟩
   have s3:∃ z2,g_two_sides_3 (TS W S C y2 y3) = .rt (.tup [.d (.str "sides"),nL ((List.range W.many).map fun p => (S.lookup p).getD 0)]) (TS W S C z2 y3):=by
    refine ⟨keepD y2,?_⟩
    simp [g_two_sides_3,c,sizeLine_eq,nL]
   obtain ⟨z2,s3⟩:=s3
   rw [s3]
   refine ⟨.inl ⟨fun p => (S.lookup p).getD 0,⟨fun p hp => (g.low _ (lk_mem (key p hp))).2,fun t ht => ?_,fun x hx => ?_⟩,rfl⟩,by simp⟩
   ·have tt:=hW.tie ht
    obtain ⟨s,s',a1,a2,ne⟩:=cl _ (lo (W.tie t).1 (by omega)) t ⟨ht,.inl rfl⟩
    have f:far W t (W.tie t).1 = (W.tie t).2:=by simp [far]
    rw [f] at a2
    rw [a1,a2]
    exact ne
   ·obtain ⟨r,a1,a2,a3⟩:=rt x (lo x hx)
    exact ⟨r,a1,by rw [a2]; rfl,a3⟩)
 exact ⟨u,e,h⟩
end
def atB (W:Web) (t p:Nat):Bool:=(W.tie t).1 == p||(W.tie t).2 == p
def grF (W:Web):List Nat→Nat→List Nat→Option (Nat × List Nat)
 | [],p,met => some (p,met)
 | t :: R,p,met => if atB W t p = false∨p∈met then none else grF W R (far W t p) (met++[p])
def grB (W:Web) (R:List Nat) (p:Nat):Bool:=match grF W R p [] with
 | none => false
 | some (q,met) => decide (q = met.headD 0)
theorem grF_app (W:Web):∀ (R R':List Nat) (p:Nat) (met:List Nat),grF W (R++R') p met = (grF W R p met).bind fun q => grF W R' q.1 q.2
 | [],R',p,met => rfl
 | t :: R,R',p,met => by
  rw [List.cons_append,grF,grF]
  split
  ·rfl
  ·exact grF_app W R R' _ _
theorem grF_walk {W:Web} {x z:Nat} {R V:List Nat} (h:Wlk W x R V z):∀ met,V.Nodup→(∀ v,v∈V→v∉met)→grF W R x met = some (z,met++V):=by
 induction h with
 | nil => intro met _ _; simp [grF]
 | @cons x t z R V a h ih =>
  intro met nd dj
  obtain ⟨n1,n2⟩:=List.nodup_cons.mp nd
  have ab:atB W t x = true:=by
   simp only [atB,Bool.or_eq_true,beq_iff_eq]
   exact a.2
  rw [grF,if_neg (by
   rw [ab]
   rintro (e | e)
   ·cases e
   ·exact dj x List.mem_cons_self e)]
  rw [ih (met++[x]) n2 fun v hv hm => by
   (rcases List.mem_append.mp hm with hm | hm)
   ·exact dj v (List.mem_cons_of_mem _ hv) hm
   ·have:v = x:=by simpa using hm
    exact n1 (this ▸ hv)]
  simp
theorem grF_len {W:Web}:∀ {R:List Nat} {p q:Nat} {met m:List Nat},grF W R p met = some (q,m)→m.length = met.length + R.length
 | [],p,q,met,m,h => by simp [grF] at h; simp [h.2]
 | t :: R,p,q,met,m,h => by
  rw [grF] at h
  split at h
  ·cases h
  ·have:=grF_len h
   simp at this ⊢
   omega
theorem gr_round {W:Web} {x:Nat} {R V:List Nat} (h:Wlk W x R V x) (nd:V.Nodup) (ne:R≠[]):grB W R x = true:=by
 unfold grB
 rw [grF_walk h [] nd (by simp)]
 cases h with
 | nil => exact absurd rfl ne
 | cons _ _ => simp
theorem Wlk.at0 {W:Web} {x z t:Nat} {R V:List Nat} (h:Wlk W x (t :: R) V z):W.at t x:=by
 cases h with
 | cons a _ => exact a
theorem Wlk.low {W:Web} {x z:Nat} {R V:List Nat} (h:Wlk W x R V z):∀ t,t∈R→t < W.ties.length:=by
 induction h with
 | nil => intro t ht; simp at ht
 | cons a _ ih =>
  intro t ht
  rcases List.mem_cons.mp ht with rfl | ht
  ·exact a.1
  ·exact ih t ht
def sD (b:Bool) (R:List Nat):D:=if b then .list (R.map fun k:Nat => .int (k:Int)) else .tuple (R.map fun k:Nat => .int (k:Int))
theorem kIn_n5 (neg:Bool) (t:Nat) (l:List Nat):kIn neg (iT (t:Int)) (nL l) = some (bT (if neg then !decide (t∈l) else decide (t∈l))):=kIn_map (f:=fun k:Nat => PyData.int (k:Int)) (by simp [nL,Function.comp_def]) (fun _ => rfl) (fun _ => by simp) fun x y e => by
 have e:(x:Int) = (y:Int):=by simpa using e
 omega
section
variable {W:Web}
abbrev GR (W:Web) (b:Bool) (R:List Nat) (p:Nat) (met:List Nat) (y4:Option T):Rho:=[some (wT W),some (.d (sD b R)),some (iT (p:Int)),some (nL met),y4]
theorem goes_round (b:Bool) {R:List Nat} {p:Nat} (lo:∀ t,t∈R→t < W.ties.length) (ne:R≠[]) (hl:R.length < 1000) :
  ∃ y,fn_goes_round [wT W,.d (sD b R),iT (p:Int)] = .ret (bT (grB W R p)) [some (wT W),some (.d (sD b R)),y]:=by
 obtain ⟨u,back,e,y,rfl,rfl⟩:=fn_ret (n:=3) (k:=5) (st:=[3,4,2]) (g:=g_goes_round) (ts:=[wT W,.d (sD b R),iT (p:Int)]) (Q:=fun u back => ∃ y,u = bT (grB W R p)∧back = [some (wT W),some (.d (sD b R)),y]) (by
  show (g_goes_round [some (wT W),some (.d (sD b R)),some (iT (p:Int)),none,none]).sat _ _ _ _
  have s1:g_goes_round_1 [some (wT W),some (.d (sD b R)),some (iT (p:Int)),none,none] = .nx (GR W b R p [] none):=by
   simp [g_goes_round_1,nL,sizeLine_eq]
  rw [g_goes_round,sat_seq,s1,sat_nx,sat_seq]
  have sq:seqK b (.d (sD b R)) = some (R.map fun k:Nat => PyData.int (k:Int)):=by cases b <;> rfl
  have sr:slotSrc 1 (.d (sD b R)) = some ⟨some 1,b,(R.map fun k:Nat => PyData.int (k:Int)).map T.d⟩:=by cases b <;> simp [sD]
  have Rd:=rds_sl 1 b (R.map fun k:Nat => PyData.int (k:Int))
  rw [List.map_map] at Rd
  refine sat_list (l:=R) (enc:=fun k:Nat => iT (k:Int)) rfl (ρ:=GR W b R p [] none) (w:=Src.it ⟨some 1,b,R.map fun k:Nat => iT (k:Int)⟩) (by
    have:(R.map fun k:Nat => PyData.int (k:Int)).map T.d = R.map fun k:Nat => iT (k:Int):=by rw [List.map_map]; rfl
    rw [this] at sr
    simp [sr]) Rd rfl
   (fun pre post ρ => ∃ q met y4,grF W pre p [] = some (q,met)∧ρ = GR W b R q met y4) (fun pre post ρ z => by
    obtain ⟨q,met,y4,_,rfl⟩:=z
    exact ⟨.d (sD b R),rfl,sq⟩) ⟨p,[],none,rfl,rfl⟩ (fun pre t post ρ e z => ?_) fun ρ z => ?_
  ·obtain ⟨q,met,y4,hg,rfl⟩:=z
   have lt:=lo t (by rw [e]; simp)
   have at1:=atI_ties W lt
   have k1:=kIn_tie true q (W.tie t)
   have k2:=kIn_n5 false q met
   have ml:=grF_len hg
   have pl:pre.length < R.length:=by
    have:=congrArg List.length e
    simp at this
    omega
   have z:met.length < 16777216:=by simp at ml; omega
   have ksum:=kSum_tieN (W.tie t)
   rw [turn_setS (by simp)]
   simp only [List.set_cons_succ,List.set_cons_zero]
   have nx:=grF_app W pre [t] p []
   rw [hg,Option.bind_some] at nx
   simp only [grF] at nx
   by_cases c:atB W t q = false∨q∈met
   ·rw [if_pos c] at nx
    have s2:g_goes_round_2_1 (GR W b R q met (iT (t:Int))) = .rt (bT false) (GR W b R q met (iT (t:Int))):=by
     have ab:((W.tie t).1 == q||(W.tie t).2 == q) = atB W t q:=rfl
     rw [ab] at k1
     rcases c with c | c
     ·rw [c] at k1
      simp [g_goes_round_2_1,g_goes_round_2_1_t_1,at1,k1]
     ·cases ca:atB W t q with
      | false =>
       rw [ca] at k1
       simp [g_goes_round_2_1,g_goes_round_2_1_t_1,at1,k1]
      | true =>
       rw [ca] at k1
       simp [g_goes_round_2_1,g_goes_round_2_1_t_1,at1,k1,k2,c]
    rw [sat_seq,s2]
    have gb:grB W R p = false:=by
     have e2:R = (pre++[t])++post:=by rw [e]; simp
     unfold grB
     rw [e2,grF_app,nx]
     rfl
    rw [gb]
    exact ⟨none,rfl,by simp⟩
   ·rw [if_neg c] at nx
    have c1:atB W t q = true:=by
     cases h:atB W t q with
     | true => rfl
     | false => exact absurd (.inl h) c
    have c2:¬ q∈met:=fun h => c (.inr h)
    have s2:g_goes_round_2_1 (GR W b R q met (iT (t:Int))) = .nx (GR W b R q met (iT (t:Int))):=by
     have ab:((W.tie t).1 == q||(W.tie t).2 == q) = atB W t q:=rfl
     rw [ab,c1] at k1
     simp [g_goes_round_2_1,at1,k1,k2,c2]
    have s3:g_goes_round_2_2 (GR W b R q met (iT (t:Int))) = .nx (GR W b R q (met++[q]) (iT (t:Int))):=by
     simp [g_goes_round_2_2,nL,sizeLine_eq,z]
    have s4:∀ m,g_goes_round_2_3 (GR W b R q m (iT (t:Int))) = .nx (GR W b R (far W t q) m (iT (t:Int))):=fun m => by
     have f:(((W.tie t).1:Int) + ((W.tie t).2:Int)) - (q:Int) = ((far W t q:Nat):Int):=by
      simp only [atB,Bool.or_eq_true,beq_iff_eq] at c1
      unfold far
      split <;> omega
     simp [g_goes_round_2_3,at1,ksum,f]
    rw [sat_seq,s2,sat_nx,sat_seq,s3,sat_nx,s4]
    exact ⟨_,_,_,nx,rfl⟩
  ·obtain ⟨q,met,y4,hg,rfl⟩:=z
   have ml:=grF_len hg
   have gb:grB W R p = decide (q = met.headD 0):=by
    unfold grB
    rw [hg]
   cases hm:met with
   | nil =>
    rw [hm] at ml
    simp at ml
    exact absurd (List.length_eq_zero_iff.mp (by omega)) ne
   | cons m0 mr =>
    rw [hm] at gb
    have ix:kIxA (nL (m0 :: mr)) (iT 0) = some (iT (m0:Int)):=by simp [nL]
    have s5:g_goes_round_3 (GR W b R q (m0 :: mr) y4) = .rt (bT (decide (q = m0))) (GR W b R q (m0 :: mr) y4):=by
     have:(decide ((q:Int) = (m0:Int))) = decide (q = m0):=by
      rw [Bool.eq_iff_iff,decide_eq_true_eq,decide_eq_true_eq]
      omega
     simp [-kIxA_ev,g_goes_round_3,ix]
     omega
    rw [s5,gb]
    exact ⟨none,rfl,by simp⟩)
 exact ⟨y,e⟩
end
theorem sD_isi (b:Bool) (R:List Nat):kIsi2 .list .tuple (.d (sD b R)) = some (bT true):=by cases b <;> rfl
theorem sD_len (b:Bool) (R:List Nat):kLenA (.d (sD b R)) = some (iT (R.length:Int)):=by cases b <;> simp [sD]
theorem sD_list (b:Bool) (R:List Nat):kListOf (.d (sD b R)) = some (nL R):=by cases b <;> simp [sD,nL,Function.comp_def]
theorem sD_src (b:Bool) (R:List Nat) (i:Nat):slotSrc i (.d (sD b R)) = some ⟨some i,b,R.map fun k:Nat => iT (k:Int)⟩:=by
 have:(R.map fun k:Nat => PyData.int (k:Int)).map T.d = R.map fun k:Nat => iT (k:Int):=by rw [List.map_map]; rfl
 cases b <;> simp [sD,this,Function.comp_def]
theorem sD_rds (b:Bool) (R:List Nat) (i:Nat):Rds (Src.it ⟨some i,b,R.map fun k:Nat => iT (k:Int)⟩) (R.map fun k:Nat => iT (k:Int)) (fun ρ => ∃ t,getS ρ i = some t∧seqK b t = some (R.map fun k:Nat => PyData.int (k:Int))):=by
 have:=rds_sl i b (R.map fun k:Nat => PyData.int (k:Int))
 rw [List.map_map] at this
 exact this
theorem sD_seq (b:Bool) (R:List Nat):seqK b (.d (sD b R)) = some (R.map fun k:Nat => PyData.int (k:Int)):=by cases b <;> rfl
section
variable {W:Web}
theorem is_ring (b:Bool) {R:List Nat} (od:Odd W R) (hl:R.length < 1000):fn_is_ring [wT W,.d (sD b R)] = .ret (bT true) [some (wT W),some (.d (sD b R))]:=by
 obtain ⟨⟨x,V,wk,nd⟩,o1,o2⟩:=od
 have lo:=wk.low
 cases hR:R with
 | nil => rw [hR] at o2; simp at o2
 | cons t0 R0 =>
 rw [← hR]
 have a0:W.at t0 x:=by
  rw [hR] at wk
  exact wk.at0
 have ne:R≠[]:=by rw [hR]; simp
 refine fn_to ?_
 show (g_is_ring [some (wT W),some (.d (sD b R)),none,none]).sat _ _ _ _
 have i1:=sD_isi b R
 have i2:=sD_len b R
 have c1:¬ (R.length:Int) < 3:=by omega
 have c2:¬ (R.length:Int) % 2 = 0:=by omega
 have s1:g_is_ring_1 [some (wT W),some (.d (sD b R)),none,none] = .nx [some (wT W),some (.d (sD b R)),none,none]:=by
  simp [g_is_ring_1,i1,i2,c1,c2]
 have al:=all_map (fun _:Nat => true) R
 have al2:R.all (fun _ => true) = true:=by simp
 rw [al2] at al
 have src:=sD_src b R 1
 have c:=lc_all (c:=c_is_ring_1) (l:=R) (enc:=fun k:Nat => iT (k:Int)) (fun _ => bT true) rfl (ρ0:=[some (wT W),some (.d (sD b R)),none,none]) (ρ:=[some (wT W),some (.d (sD b R)),none,none]) (w:=Src.it ⟨some 1,b,R.map fun k:Nat => iT (k:Int)⟩) (by simp [src]) (sD_rds b R 1) rfl (by omega) ⟨_,rfl,sD_seq b R⟩ fun k hk => by
  have nk:=is_numberD (.int (k:Int))
  have lt:(k:Int) < (W.ties.length:Int):=by have:=lo k hk; omega
  exact ⟨[some (wT W),some (.d (sD b R)),none,some (iT (k:Int))],by simp,by simp,by simp [nk,isInt,lt]⟩
 have s2:g_is_ring_2 [some (wT W),some (.d (sD b R)),none,none] = .nx [some (wT W),some (.d (sD b R)),none,none]:=by
  simp [g_is_ring_2,c,al]
 have at0:=atI_ties W a0.1
 have ix0:kIxA (.d (sD b R)) (iT 0) = some (iT (t0:Int)):=by
  rw [hR]
  cases b <;> simp [sD]
 have ixw:kIxA (.d (.tuple (W.ties.map tieD))) (iT (t0:Int)) = some (.d (tieD (W.tie t0))):=by simp [at0]
 have g1:=fun p => goes_round (W:=W) b (p:=p) lo ne hl
 have c3:=lc_all (c:=c_is_ring_2) (l:=[(W.tie t0).1,(W.tie t0).2]) (enc:=fun k:Nat => iT (k:Int)) (fun p => bT (grB W R p)) rfl (ρ0:=[some (wT W),some (.d (sD b R)),none,none]) (ρ:=[some (wT W),some (.d (sD b R)),none,none]) (w:=Src.it ⟨none,false,[(W.tie t0).1,(W.tie t0).2].map fun k:Nat => iT (k:Int)⟩) (by
   have w1:kIxA (wT W) (iT 1) = some (.d (.tuple (W.ties.map tieD))):=by simp [Web.d]
   simp [-kIxA_ev,w1,ix0,ixw]; rfl) (rds_st false _ fun _ => True) rfl (by simp) trivial fun p hp => by
  obtain ⟨y,e⟩:=g1 p
  have b0:∀ m:Bool,backL m [.nm 0,.nm 1,.nm 2] [false,false,false] [some (wT W),some (.d (sD b R)),y] [some (wT W),some (.d (sD b R)),some (iT (p:Int)),none] = [some (wT W),some (.d (sD b R)),some (iT (p:Int)),none]:=fun m => by cases m <;> rfl
  exact ⟨[some (wT W),some (.d (sD b R)),some (iT (p:Int)),none],by simp,by simp,by simp [e,b0]⟩
 have gr:=gr_round wk nd ne
 have an:kAny (.lst ([(W.tie t0).1,(W.tie t0).2].map fun p => bT (grB W R p))) = some (bT true):=by
  rcases a0.2 with q | q
  ·rw [← q] at gr
   simp [kAny,asBools,gr]
  ·rw [← q] at gr
   simp [kAny,asBools,gr]
 have s3:g_is_ring_3 [some (wT W),some (.d (sD b R)),none,none] = .rt (bT true) [some (wT W),some (.d (sD b R)),none,none]:=by
  generalize ([(W.tie t0).1,(W.tie t0).2].map fun p => bT (grB W R p)) = BL at c3 an
  simp [g_is_ring_3,c3,an]
 rw [g_is_ring,sat_seq,s1,sat_nx,sat_seq,s2,sat_nx,s3]
 simp
theorem cl_si:(PyData.str "sides").canLay0 = true:=by decide +kernel
theorem ke_si:kEqv false (.d (.str "sides")) (.d (.str "sides")) = some (bT true):=ke_t cl_si cl_si (by decide +kernel)
theorem ke_rs:kEqv false (.d (.str "ring")) (.d (.str "sides")) = some (bT false):=ke_f cl_ri cl_si (by decide +kernel)
theorem ke_ri:kEqv false (.d (.str "ring")) (.d (.str "ring")) = some (bT true):=ke_t cl_ri cl_ri (by decide +kernel)
theorem ke_nn (l:List Nat):kEqv false (nL l) (nL l) = some (bT true):=by
 have o:Ok 1 (.list (l.map fun k:Nat => PyData.int (k:Int))):=.list (.map fun a _ => .int 0 _)
 have d:datOf (nL l) = some (.list (l.map fun k:Nat => PyData.int (k:Int))):=by simp [nL,Function.comp_def]
 rw [kEqv_at (n:=1) d d o o,eqv_refl o]
 rfl
theorem are_sides (b:Bool) {cs:List Nat} (hm:W.many < 400) (hl:cs.length = W.many) (lo:∀ s,s∈cs→s < 2) (ts:fn_two_sides [wT W] = .ret (.tup [.d (.str "sides"),nL cs]) [some (wT W)]):fn_are_sides [wT W,.d (sD b cs)] = .ret (bT true) [some (wT W),some (.d (sD b cs))]:=by
 refine fn_to ?_
 show (g_are_sides [some (wT W),some (.d (sD b cs)),none,none]).sat _ _ _ _
 have i1:=sD_isi b cs
 have i2:=sD_len b cs
 have s1:g_are_sides_1 [some (wT W),some (.d (sD b cs)),none,none] = .nx [some (wT W),some (.d (sD b cs)),none,none]:=by
  simp [g_are_sides_1,i1,i2,hl]
 have al:=all_map (fun _:Nat => true) cs
 have al2:cs.all (fun _ => true) = true:=by simp
 rw [al2] at al
 have src:=sD_src b cs 1
 have c:=lc_all (c:=c_are_sides_1) (l:=cs) (enc:=fun k:Nat => iT (k:Int)) (fun _ => bT true) rfl (ρ0:=[some (wT W),some (.d (sD b cs)),none,none]) (ρ:=[some (wT W),some (.d (sD b cs)),none,none]) (w:=Src.it ⟨some 1,b,cs.map fun k:Nat => iT (k:Int)⟩) (by simp [src]) (sD_rds b cs 1) rfl (by omega) ⟨_,rfl,sD_seq b cs⟩ fun k hk => by
  have nk:=is_numberD (.int (k:Int))
  have lt:(k:Int)≤1:=by have:=lo k hk; omega
  exact ⟨[some (wT W),some (.d (sD b cs)),none,some (iT (k:Int))],by simp,by simp,by simp [nk,isInt,lt]⟩
 have s2:g_are_sides_2 [some (wT W),some (.d (sD b cs)),none,none] = .nx [some (wT W),some (.d (sD b cs)),none,none]:=by
  simp [g_are_sides_2,c,al]
 have b0:∀ m:Bool,backL m [.nm 0] [false] [some (wT W)] [some (wT W),some (.d (sD b cs)),none,none] = [some (wT W),some (.d (sD b cs)),none,none]:=fun m => by cases m <;> rfl
 have s3:g_are_sides_3 [some (wT W),some (.d (sD b cs)),none,none] = .nx [some (wT W),some (.d (sD b cs)),some (.tup [.d (.str "sides"),nL cs]),none]:=by
  simp [g_are_sides_3,ts,b0]
 have kl:=sD_list b cs
 have kn:=ke_nn cs
 have s4:g_are_sides_4 [some (wT W),some (.d (sD b cs)),some (.tup [.d (.str "sides"),nL cs]),none] = .rt (bT true) [some (wT W),some (.d (sD b cs)),some (.tup [.d (.str "sides"),nL cs]),none]:=by
  simp [g_are_sides_4,ke_si,kl,kn]
 rw [g_are_sides,sat_seq,s1,sat_nx,sat_seq,s2,sat_nx,sat_seq,s3,sat_nx,s4]
 simp
end
section
variable {W:Web} {c c':Nat→Nat}
theorem flip_at (hW:W.Ok) (h:∀ t,t < W.ties.length→c (W.tie t).1≠c (W.tie t).2) {t p:Nat} (a:W.at t p):c p≠c (far W t p):=by
 obtain ⟨lt,a⟩:=a
 have:=h t lt
 have tt:=hW.tie lt
 unfold far
 rcases a with a | a
 ·rw [if_pos a,← a]
  exact this
 ·rw [if_neg (by omega),← a]
  exact this.symm
theorem Wlk.par (hW:W.Ok) (h2:∀ p,p < W.many→c p < 2) (h:∀ t,t < W.ties.length→c (W.tie t).1≠c (W.tie t).2) {x z:Nat} {R V:List Nat} (w:Wlk W x R V z):(c x + R.length) % 2 = c z % 2:=by
 induction w with
 | nil => simp
 | @cons x t z R V a w ih =>
  have f:=flip_at hW h a
  obtain ⟨lt,a'⟩:=a
  have tt:=hW.tie lt
  have l1:=h2 x (by omega)
  have l2:=h2 (far W t x) (far_at hW ⟨lt,a'⟩).2.2
  simp only [List.length_cons]
  omega
theorem Odd.none (hW:W.Ok) {R:List Nat} (o:Odd W R) (h2:∀ p,p < W.many→c p < 2) (h:∀ t,t < W.ties.length→c (W.tie t).1≠c (W.tie t).2):False:=by
 obtain ⟨⟨x,V,w,_⟩,o1,_⟩:=o
 have:=w.par hW h2 h
 omega
theorem Rea.agree (hW:W.Ok) (h2:∀ p,p < W.many→c p < 2) (h:∀ t,t < W.ties.length→c (W.tie t).1≠c (W.tie t).2) (h2':∀ p,p < W.many→c' p < 2) (h':∀ t,t < W.ties.length→c' (W.tie t).1≠c' (W.tie t).2) {x y:Nat} (r:Rea W x y):c y = c' y→c x = c' x:=by
 induction r with
 | refl => exact id
 | @head x t z a r ih =>
  intro e
  have e:=ih e
  have f:=flip_at hW h a
  have f':=flip_at hW h' a
  have l:=(far_at hW a).2.2
  obtain ⟨lt,a'⟩:=a
  have tt:=hW.tie lt
  have l1:=h2 x (by omega)
  have l2:=h2 (far W t x) l
  have l3:=h2' x (by omega)
  have l4:=h2' (far W t x) l
  omega
theorem Sided.one (hW:W.Ok) (s:Sided W c) (s':Sided W c') {x:Nat} (hx:x < W.many):c x = c' x:=by
 obtain ⟨r,a1,a2,a3⟩:=s.rt x hx
 obtain ⟨r',b1,b2,b3⟩:=s'.rt x hx
 have e1:=a3 r' ((a1.symm hW).trans b1)
 have e2:=b3 r ((b1.symm hW).trans a1)
 have e:r = r':=by omega
 subst e
 exact a1.agree hW s.two s.far' s'.two s'.far' (by omega)
end
abbrev Row:=List (Option Nat)
def hlf (a:Row) (u v:Nat):Row:=match hAt a u,hAt a v with
 | some s,none => a.set v (some (1 - s))
 | _,_ => a
def stp (a:Row) (q:Nat × Nat):Row:=hlf (hlf a q.1 q.2) q.2 q.1
def rnd (l:List (Nat × Nat)) (a:Row):Row:=l.foldl stp a
structure Mor (a b:Row):Prop where
 len:b.length = a.length
 keep:∀ p s,hAt a p = some s→hAt b p = some s
theorem Mor.refl (a:Row):Mor a a:=⟨rfl,fun _ _ h => h⟩
theorem Mor.trans {a b c:Row} (h:Mor a b) (h':Mor b c):Mor a c:=⟨h'.len.trans h.len,fun p s e => h'.keep p s (h.keep p s e)⟩
theorem mor_set {a:Row} {p:Nat} (h:hAt a p = none) (o:Option Nat):Mor a (a.set p o):=⟨by simp,fun x s e => by
 by_cases lt:p < a.length
 ·rw [hAt_set _ lt]
  by_cases c:x = p
  ·rw [c,h] at e; cases e
  ·rw [if_neg c]; exact e
 ·rw [List.set_eq_of_length_le (by omega)]
  exact e⟩
theorem hlf_mor (b:Row) (x y:Nat):Mor b (hlf b x y):=by
 unfold hlf
 cases e1:hAt b x with
 | none => exact .refl b
 | some s =>
  cases e2:hAt b y with
  | none => exact mor_set e2 _
  | some _ => exact .refl b
theorem stp_mor (a:Row) (q:Nat × Nat):Mor a (stp a q):=(hlf_mor a q.1 q.2).trans (hlf_mor _ q.2 q.1)
theorem rnd_mor:∀ (l:List (Nat × Nat)) (a:Row),Mor a (rnd l a)
 | [],a => .refl a
 | q :: l,a => (stp_mor a q).trans (rnd_mor l (stp a q))
def evn (a:Row) (q:Nat × Nat):Prop:=(hAt a q.1).isSome = (hAt a q.2).isSome
theorem stp_same {a:Row} {q:Nat × Nat} (h:evn a q):stp a q = a:=by
 unfold evn at h
 unfold stp hlf
 cases e1:hAt a q.1 with
 | none =>
  rw [e1] at h
  cases e2:hAt a q.2 with
  | none => simp [e1,e2]
  | some s => rw [e2] at h; cases h
 | some s =>
  rw [e1] at h
  cases e2:hAt a q.2 with
  | none => rw [e2] at h; cases h
  | some s' => simp [e1,e2]
theorem rnd_same {a:Row}:∀ {l:List (Nat × Nat)},(∀ q,q∈l→evn a q)→rnd l a = a
 | [],_ => rfl
 | q :: l,h => by
  show rnd l (stp a q) = a
  rw [stp_same (h q List.mem_cons_self)]
  exact rnd_same fun q' hq => h q' (List.mem_cons_of_mem _ hq)
theorem stp_both {a:Row} {q:Nat × Nat} (h1:q.1 < a.length) (h2:q.2 < a.length) (hs:(hAt a q.1).isSome = true∨(hAt a q.2).isSome = true):(hAt (stp a q) q.1).isSome = true∧(hAt (stp a q) q.2).isSome = true:=by
 unfold stp hlf
 cases e1:hAt a q.1 with
 | none =>
  rw [e1] at hs
  cases e2:hAt a q.2 with
  | none => rw [e2] at hs; simp at hs
  | some s =>
   have ne:q.2≠q.1:=fun e => by rw [e,e1] at e2; cases e2
   simp only [e1,e2]
   rw [hAt_set _ h1,hAt_set _ h1,if_pos rfl,if_neg ne,e2]
   simp
 | some s =>
  cases e2:hAt a q.2 with
  | none =>
   have ne:q.1≠q.2:=fun e => by rw [e,e2] at e1; cases e1
   have g1:hAt (a.set q.2 (some (1 - s))) q.1 = some s:=by rw [hAt_set _ h2,if_neg ne,e1]
   have g2:hAt (a.set q.2 (some (1 - s))) q.2 = some (1 - s):=by rw [hAt_set _ h2,if_pos rfl]
   simp only [g1,g2]
   simp
  | some s' =>
   simp only [e1,e2]
   simp
theorem rnd_both {q:Nat × Nat}:∀ {l:List (Nat × Nat)} {a:Row},q∈l→q.1 < a.length→q.2 < a.length→((hAt a q.1).isSome = true∨(hAt a q.2).isSome = true)→(hAt (rnd l a) q.1).isSome = true∧(hAt (rnd l a) q.2).isSome = true
 | p :: l,a,hq,h1,h2,hs => by
  have m:=stp_mor a p
  have up:∀ {a b:Row} {x:Nat},Mor a b→(hAt a x).isSome = true→(hAt b x).isSome = true:=fun {a b x} m h => by
   obtain ⟨s,e⟩:=Option.isSome_iff_exists.mp h
   rw [m.keep x s e]
   rfl
  (rcases List.mem_cons.mp hq with rfl | hq)
  ·obtain ⟨b1,b2⟩:=stp_both h1 h2 hs
   have m2:=rnd_mor l (stp a q)
   exact ⟨up m2 b1,up m2 b2⟩
  ·exact rnd_both (l:=l) (a:=stp a p) hq (by rw [m.len]; exact h1) (by rw [m.len]; exact h2) (hs.imp (up m) (up m))
def setN (a:Row):Nat:=(List.range a.length).countP fun p => (hAt a p).isSome
theorem countP_lt {α:Type} {f g:α→Bool} {x:α}:∀ {l:List α},(∀ y,y∈l→f y = true→g y = true)→x∈l→f x = false→g x = true→l.countP f < l.countP g
 | y :: r,h,hx,e1,e2 => by
  have hr:=fun z hz => h z (List.mem_cons_of_mem _ hz)
  have le:r.countP f≤r.countP g:=List.countP_mono_left hr
  rw [List.countP_cons,List.countP_cons]
  (rcases List.mem_cons.mp hx with rfl | hx)
  ·simp only [e1,e2]
   simp
   omega
  ·have ih:=countP_lt hr hx e1 e2
   have:=h y List.mem_cons_self
   cases c:f y with
   | false => split <;> split <;> simp_all <;> omega
   | true =>
    rw [this c]
    simp
    omega
theorem setN_le (a:Row):setN a≤a.length:=by
 have:=List.countP_le_length (p:=fun p => (hAt a p).isSome) (l:=List.range a.length)
 simpa [setN] using this
theorem setN_lt {a b:Row} (m:Mor a b) {p:Nat} (lt:p < a.length) (e1:hAt a p = none) (e2:(hAt b p).isSome = true):setN a < setN b:=by
 unfold setN
 rw [m.len]
 refine countP_lt (x:=p) (fun y _ h => ?_) (List.mem_range.mpr lt) (by rw [e1]; rfl) e2
 obtain ⟨s,e⟩:=Option.isSome_iff_exists.mp h
 rw [m.keep y s e]
 rfl
def rnds (l:List (Nat × Nat)):Nat→Row→Row
 | 0,a => a
 | n + 1,a => rnd l (rnds l n a)
theorem rnds_mor (l:List (Nat × Nat)) (a:Row):∀ n,Mor a (rnds l n a)
 | 0 => .refl a
 | n + 1 => (rnds_mor l a n).trans (rnd_mor l _)
theorem rnds_more (l:List (Nat × Nat)) {a:Row} (lo:∀ q,q∈l→q.1 < a.length∧q.2 < a.length):∀ n,(∀ q,q∈l→evn (rnds l n a) q)∨setN a + n≤setN (rnds l n a)
 | 0 => .inr (by simp [rnds])
 | n + 1 => by
  have m:=rnds_mor l a n
  by_cases h:∀ q,q∈l→evn (rnds l n a) q
  ·left
   intro q hq
   show evn (rnd l (rnds l n a)) q
   rw [rnd_same h]
   exact h q hq
  ·right
   rcases rnds_more l lo n with z | z
   ·exact absurd z h
   ·obtain ⟨q,hq,ne⟩:∃ q,q∈l∧¬ evn (rnds l n a) q:=by
     by_cases c:∃ q,q∈l∧¬ evn (rnds l n a) q
     ·exact c
     ·exact absurd (fun q hq => Classical.byContradiction fun ne => c ⟨q,hq,ne⟩) h
    obtain ⟨l1,l2⟩:=lo q hq
    rw [← m.len] at l1 l2
    have m2:=rnd_mor l (rnds l n a)
    have lt:setN (rnds l n a) < setN (rnd l (rnds l n a)):=by
     unfold evn at ne
     cases e1:hAt (rnds l n a) q.1 with
     | none =>
      cases e2:hAt (rnds l n a) q.2 with
      | none => rw [e1,e2] at ne; exact absurd rfl ne
      | some s => exact setN_lt m2 l1 e1 (rnd_both hq l1 l2 (.inr (by rw [e2]; rfl))).1
     | some s =>
      cases e2:hAt (rnds l n a) q.2 with
      | none => exact setN_lt m2 l2 e2 (rnd_both hq l1 l2 (.inl (by rw [e1]; rfl))).2
      | some s' => rw [e1,e2] at ne; exact absurd rfl ne
    show setN a + (n + 1)≤setN (rnd l (rnds l n a))
    omega
theorem rnds_shut (l:List (Nat × Nat)) {a:Row} (lo:∀ q,q∈l→q.1 < a.length∧q.2 < a.length) (pos:0 < setN a):∀ q,q∈l→evn (rnds l a.length a) q:=by
 rcases rnds_more l lo a.length with h | h
 ·exact h
 ·have:=setN_le (rnds l a.length a)
  rw [(rnds_mor l a a.length).len] at this
  omega
section
variable {W:Web}
def Good (W:Web) (a:Row):Prop:=∀ x s,hAt a x = some s→s < 2∧(∃ r,Rea W x r∧hAt a r = some 0∧∀ y,Rea W r y→r≤y)∧∀ c,Sided W c→c x = s
theorem good_set (hW:W.Ok) {a:Row} (g:Good W a) {t u v s:Nat} (at1:W.at t u) (f:far W t u = v) (lv:v < a.length) (e1:hAt a u = some s) (e2:hAt a v = none):Good W (a.set v (some (1 - s))):=by
 have m:=mor_set e2 (some (1 - s))
 obtain ⟨s2,⟨r,r1,r2,r3⟩,cs⟩:=g u s e1
 intro x s' e
 rw [hAt_set _ lv] at e
 by_cases c:x = v
 ·rw [if_pos c] at e
  cases e
  subst c
  refine ⟨by omega,⟨r,?_,m.keep r 0 r2,r3⟩,fun c hc => ?_⟩
  ·rw [← f]
   refine .head (far_at hW at1).1 ?_
   rw [far_back hW at1]
   exact r1
  ·have fl:=flip_at hW hc.far' at1
   rw [f,cs c hc] at fl
   have:=hc.two x (by rw [← f]; exact (far_at hW at1).2.2)
   omega
 ·rw [if_neg c] at e
  obtain ⟨q1,⟨r,q2,q3,q4⟩,q5⟩:=g x s' e
  exact ⟨q1,⟨r,q2,m.keep r 0 q3,q4⟩,q5⟩
theorem stp_good (hW:W.Ok) {a:Row} (g:Good W a) (la:a.length = W.many) {t:Nat} (lt:t < W.ties.length):Good W (stp a (W.tie t)):=by
 have tt:=hW.tie lt
 have f1:far W t (W.tie t).1 = (W.tie t).2:=by simp [far]
 have f2:far W t (W.tie t).2 = (W.tie t).1:=by
  unfold far
  rw [if_neg (by omega)]
 have key:∀ {b:Row} {u v:Nat},Good W b→b.length = W.many→W.at t u→far W t u = v→v < W.many→Good W (hlf b u v):=fun {b u v} g lb at1 f lv => by
  unfold hlf
  cases e1:hAt b u with
  | none => exact g
  | some s =>
   cases e2:hAt b v with
   | none => exact good_set hW g at1 f (by omega) e1 e2
   | some _ => exact g
 exact key (key g la ⟨lt,.inl rfl⟩ f1 (by omega)) ((hlf_mor a _ _).len.trans la) ⟨lt,.inr rfl⟩ f2 (by omega)
theorem rnd_good (hW:W.Ok):∀ (l:List (Nat × Nat)) {a:Row},(∀ q,q∈l→q∈W.ties)→Good W a→a.length = W.many→Good W (rnd l a)
 | [],a,_,g,_ => g
 | q :: l,a,h,g,la => by
  obtain ⟨t,lt,e⟩:=List.mem_iff_getElem.mp (h q List.mem_cons_self)
  have eq:W.tie t = q:=by
   have:=tie_at W lt
   rw [List.getElem?_eq_getElem lt,e] at this
   (exact (Option.some.inj this).symm)
  have g2:=stp_good hW g la lt
  rw [eq] at g2
  exact rnd_good hW l (a:=stp a q) (fun q' hq => h q' (List.mem_cons_of_mem _ hq)) g2 ((stp_mor a q).len.trans la)
theorem rnds_good (hW:W.Ok) {a:Row} (g:Good W a) (la:a.length = W.many):∀ n,Good W (rnds W.ties n a)
 | 0 => g
 | n + 1 => rnd_good hW W.ties (fun _ h => h) (rnds_good hW g la n) ((rnds_mor W.ties a n).len.trans la)
theorem good_root (hW:W.Ok) {a:Row} (g:Good W a) (la:a.length = W.many) {k:Nat} (lk:k < W.many) (e:hAt a k = none) (mn:∀ y,Rea W k y→k≤y):Good W (a.set k (some 0)):=by
 have m:=mor_set e (some 0)
 intro x s e1
 rw [hAt_set _ (by omega)] at e1
 by_cases c:x = k
 ·rw [if_pos c] at e1
  cases e1
  subst c
  refine ⟨by omega,⟨x,.refl _,by rw [hAt_set _ (by omega),if_pos rfl],mn⟩,fun c hc => ?_⟩
  obtain ⟨r,r1,r2,r3⟩:=hc.rt x lk
  have h1:=mn r r1
  have h2:=r3 x (r1.symm hW)
  have:r = x:=by omega
  rw [← this]
  exact r2
 ·rw [if_neg c] at e1
  obtain ⟨q1,⟨r,q2,q3,q4⟩,q5⟩:=g x s e1
  exact ⟨q1,⟨r,q2,m.keep r 0 q3,q4⟩,q5⟩
theorem shut_rea (hW:W.Ok) {a:Row} (sh:∀ q,q∈W.ties→evn a q) {x y:Nat} (r:Rea W x y):(hAt a x).isSome = true→(hAt a y).isSome = true:=by
 induction r with
 | refl => exact id
 | @head x t z at1 _ ih =>
  intro h
  refine ih ?_
  obtain ⟨lt,a'⟩:=at1
  have ev:=sh (W.tie t) (List.mem_of_getElem? (tie_at W lt))
  unfold evn at ev
  unfold far
  rcases a' with e | e
  ·rw [if_pos e,← ev,e]
   exact h
  ·have tt:=hW.tie lt
   rw [if_neg (by omega),ev,e]
   exact h
noncomputable def colF (W:Web):Nat→Row
 | 0 => List.replicate W.many none
 | k + 1 => if (hAt (colF W k) k).isNone = true then rnds W.ties W.many ((colF W k).set k (some 0)) else colF W k
theorem hAt_rep' (n t:Nat):hAt (List.replicate n (none:Option Nat)) t = none:=by
 unfold hAt
 rw [List.getD_eq_getElem?_getD,List.getElem?_replicate]
 split <;> rfl
structure ColOk (W:Web) (k:Nat) (a:Row):Prop where
 len:a.length = W.many
 good:Good W a
 shut:∀ q,q∈W.ties→evn a q
 set':∀ p,p < k→(hAt a p).isSome = true
theorem colF_ok (hW:W.Ok):∀ k,k≤W.many→ColOk W k (colF W k)
 | 0,_ => ⟨by simp [colF],fun x s e => (by rw [colF,hAt_rep'] at e; cases e),fun q _ => (by unfold evn; rw [colF,hAt_rep',hAt_rep']),fun p hp => by omega⟩
 | k + 1,h => by
  obtain ⟨l,g,sh,st⟩:=colF_ok hW k (by omega)
  rw [colF]
  cases e:hAt (colF W k) k with
  | some s =>
   simp only [Option.isNone_some,Bool.false_eq_true,if_false]
   refine ⟨l,g,sh,fun p hp => ?_⟩
   by_cases c:p = k
   ·rw [c,e]; rfl
   ·exact st p (by omega)
  | none =>
   simp only [Option.isNone_none,if_true]
   generalize colF W k = a at l g sh st e
   have mn:∀ y,Rea W k y→k≤y:=fun y r => by
    by_cases lt:k≤y
    ·exact lt
    ·have:=shut_rea hW sh (r.symm hW) (st y (by omega))
     rw [e] at this
     cases this
   have g2:=good_root hW g l (by omega) e mn
   have l2:(a.set k (some 0)).length = W.many:=by simp [l]
   have hk:hAt (a.set k (some 0)) k = some 0:=by rw [hAt_set _ (by omega),if_pos rfl]
   have pos:0 < setN (a.set k (some 0)):=by
    unfold setN
    rw [List.countP_pos_iff]
    exact ⟨k,List.mem_range.mpr (by omega),by rw [hk]; rfl⟩
   have lo:∀ q,q∈W.ties→q.1 < (a.set k (some 0)).length∧q.2 < (a.set k (some 0)).length:=fun q hq => by
    have:=hW q hq
    omega
   have sh2:=rnds_shut W.ties lo pos
   rw [l2] at sh2
   have m1:=mor_set e (some 0)
   have m2:=rnds_mor W.ties (a.set k (some 0)) W.many
   refine ⟨m2.len.trans l2,rnds_good hW g2 l2 _,sh2,fun p hp => ?_⟩
   by_cases c:p = k
   ·rw [c,m2.keep k 0 hk]; rfl
   ·obtain ⟨s,es⟩:=Option.isSome_iff_exists.mp (st p (by omega))
    rw [(m1.trans m2).keep p s es]
    rfl
theorem col_no (hW:W.Ok) {t:Nat} (lt:t < W.ties.length) (e:hAt (colF W W.many) (W.tie t).1 = hAt (colF W W.many) (W.tie t).2) {c:Nat→Nat} (s:Sided W c):False:=by
 obtain ⟨l,g,sh,st⟩:=colF_ok hW W.many (Nat.le_refl _)
 have tt:=hW.tie lt
 obtain ⟨a,ea⟩:=Option.isSome_iff_exists.mp (st (W.tie t).1 (by omega))
 have h1:=(g _ _ ea).2.2 c s
 rw [e] at ea
 have h2:=(g _ _ ea).2.2 c s
 exact s.far' t lt (h1.trans h2.symm)
theorem col_yes (hW:W.Ok) (no:∀ t,t < W.ties.length→hAt (colF W W.many) (W.tie t).1≠hAt (colF W W.many) (W.tie t).2):Sided W (fun x => (hAt (colF W W.many) x).getD 0):=by
 obtain ⟨l,g,sh,st⟩:=colF_ok hW W.many (Nat.le_refl _)
 have key:∀ x,x < W.many→hAt (colF W W.many) x = some ((hAt (colF W W.many) x).getD 0):=fun x hx => by
  obtain ⟨s,e⟩:=Option.isSome_iff_exists.mp (st x hx)
  rw [e]
  rfl
 refine ⟨fun p hp => (g _ _ (key p hp)).1,fun t lt e => ?_,fun x hx => ?_⟩
 ·have tt:=hW.tie lt
  refine no t lt ?_
  rw [key _ (show (W.tie t).1 < W.many by omega),key _ tt.2]
  exact congrArg some e
 ·obtain ⟨_,⟨r,r1,r2,r3⟩,_⟩:=g _ _ (key x hx)
  exact ⟨r,r1,by rw [r2]; rfl,r3⟩
end
theorem ixA_h {r:List (Option Nat)} {t:Nat} (h:t < r.length):kIxA (hL r) (iT (t:Int)) = some (hT (hAt r t)):=by
 show kIxA (.lst (r.map fun o => hT o)) (iT (t:Int)) = _
 simp [atI_hT r h]
theorem h_set (r:List (Option Nat)) (t:Nat) (o:Option Nat):(r.map fun o => hT o).set t (hT o) = (r.set t o).map fun o => hT o:=by rw [List.map_set]
section
variable {W:Web} {a:Row}
abbrev LC (W:Web) (a:Row) (y2 y3:Option T) (u v:Nat):Rho:=[some (wT W),some (hL a),y2,y3,some (iT (u:Int)),some (iT (v:Int))]
theorem hlf_1 (y2 y3:Option T) {u v:Nat} (lu:u < a.length) (lv:v < a.length) (two:∀ x s,hAt a x = some s→s < 2):g_law_sides_2_1_t_2_1_1 (LC W a y2 y3 u v) = .nx (LC W (hlf a u v) y2 y3 u v):=by
 have i1:=ixA_h lu
 have i2:=ixA_h lv
 have n1:=isNone_h (hAt a u)
 have n2:=isNone_h (hAt a v)
 unfold hlf
 cases e1:hAt a u with
 | none =>
  rw [e1] at i1 n1
  simp only [LC,hL] at i1 ⊢
  simp [-kIxA_ev,g_law_sides_2_1_t_2_1_1,i1,n1]
 | some s =>
  have s2:=two u s e1
  rw [e1] at i1 n1
  cases e2:hAt a v with
  | some s' =>
   rw [e2] at i2 n2
   simp only [LC,hL] at i1 i2 ⊢
   simp [-kIxA_ev,g_law_sides_2_1_t_2_1_1,i1,n1,i2,n2]
  | none =>
   rw [e2] at i2 n2
   have hs:=h_set a v (some (1 - s))
   have sv:(1:Int) - (s:Int) = ((1 - s:Nat):Int):=by omega
   have hd:hT (some s) = iT (s:Int):=rfl
   have hd2:hT (some (1 - s)) = iT ((1 - s:Nat):Int):=rfl
   have ixn:=ixN_nat (n:=a.length) (k:=v) lv
   simp only [LC,hL] at i1 i2 hs ⊢
   rw [← hs,hd2]
   rw [hd] at i1 n1
   simp [-kIxA_ev,g_law_sides_2_1_t_2_1_1,g_law_sides_2_1_t_2_1_1_t_1,i1,n1,i2,n2,sv,ixn]
theorem hlf_2 (y2 y3:Option T) {u v:Nat} (lu:u < a.length) (lv:v < a.length) (two:∀ x s,hAt a x = some s→s < 2):g_law_sides_2_1_t_2_1_2 (LC W a y2 y3 u v) = .nx (LC W (hlf a v u) y2 y3 u v):=by
 have i1:=ixA_h lu
 have i2:=ixA_h lv
 have n1:=isNone_h (hAt a u)
 have n2:=isNone_h (hAt a v)
 unfold hlf
 cases e1:hAt a v with
 | none =>
  rw [e1] at i2 n2
  simp only [LC,hL] at i2 ⊢
  simp [-kIxA_ev,g_law_sides_2_1_t_2_1_2,i2,n2]
 | some s =>
  have s2:=two v s e1
  rw [e1] at i2 n2
  cases e2:hAt a u with
  | some s' =>
   rw [e2] at i1 n1
   simp only [LC,hL] at i1 i2 ⊢
   simp [-kIxA_ev,g_law_sides_2_1_t_2_1_2,i1,n1,i2,n2]
  | none =>
   rw [e2] at i1 n1
   have hs:=h_set a u (some (1 - s))
   have sv:(1:Int) - (s:Int) = ((1 - s:Nat):Int):=by omega
   have hd:hT (some s) = iT (s:Int):=rfl
   have hd2:hT (some (1 - s)) = iT ((1 - s:Nat):Int):=rfl
   have ixn:=ixN_nat (n:=a.length) (k:=u) lu
   simp only [LC,hL] at i1 i2 hs ⊢
   rw [← hs,hd2]
   rw [hd] at i2 n2
   simp [-kIxA_ev,g_law_sides_2_1_t_2_1_2,g_law_sides_2_1_t_2_1_2_t_1,i1,n1,i2,n2,sv,ixn]
abbrev LD (W:Web) (a:Row) (y2 y3 y4 y5:Option T):Rho:=[some (wT W),some (hL a),y2,y3,y4,y5]
theorem round_1 (hW:W.Ok) (g:Good W a) (la:a.length = W.many) (y2 y3 y4 y5:Option T):∃ z4 z5,g_law_sides_2_1_t_2_1 (LD W a y2 y3 y4 y5) = .nx (LD W (rnd W.ties a) y2 y3 z4 z5):=by
 obtain ⟨ρ,e,z4,z5,rfl⟩:=nx_of (o:=g_law_sides_2_1_t_2_1 (LD W a y2 y3 y4 y5)) (N:=fun ρ => ∃ z4 z5,ρ = LD W (rnd W.ties a) y2 y3 z4 z5) (by
  refine sat_list (l:=W.ties) (enc:=fun q => T.d (tieD q)) rfl (ρ:=LD W a y2 y3 y4 y5) (w:=Src.it ⟨none,false,W.ties.map fun q => T.d (tieD q)⟩) (by simp; rfl) (rds_st false _ fun _ => True) rfl
   (fun pre post ρ => ∃ z4 z5,ρ = LD W (rnd pre a) y2 y3 z4 z5) (fun _ _ _ _ => trivial) ⟨y4,y5,rfl⟩ (fun pre q post ρ e z => ?_) fun ρ z => z
  obtain ⟨z4,z5,rfl⟩:=z
  have sub:∀ x,x∈pre→x∈W.ties:=fun x hx => by rw [e]; exact List.mem_append_left _ hx
  have gp:=rnd_good hW pre sub g la
  have lp:=(rnd_mor pre a).len.trans la
  have hq:q∈W.ties:=by rw [e]; simp
  have lq:=hW q hq
  have st:rnd (pre++[q]) a = stp (rnd pre a) q:=by simp [rnd]
  rw [st]
  generalize rnd pre a = b at gp lp
  rw [turn_to (ρ1:=LC W b y2 y3 q.1 q.2) (by simp [tieD])]
  have two:∀ x s,hAt b x = some s→s < 2:=fun x s h => (gp x s h).1
  have h1:=hlf_1 (W:=W) y2 y3 (u:=q.1) (v:=q.2) (show q.1 < b.length by omega) (show q.2 < b.length by omega) two
  have m1:=hlf_mor b q.1 q.2
  have two2:∀ x s,hAt (hlf b q.1 q.2) x = some s→s < 2:=fun x s h => by
   unfold hlf at h
   cases e1:hAt b q.1 with
   | none => rw [e1] at h; exact two x s h
   | some s1 =>
    rw [e1] at h
    cases e2:hAt b q.2 with
    | some _ => rw [e2] at h; exact two x s h
    | none =>
     rw [e2] at h
     simp only at h
     rw [hAt_set _ (by omega)] at h
     split at h
     ·cases h; omega
     ·exact two x s h
  have h2:=hlf_2 (W:=W) (a:=hlf b q.1 q.2) y2 y3 (u:=q.1) (v:=q.2) (by rw [m1.len]; omega) (by rw [m1.len]; omega) two2
  rw [sat_seq,h1,sat_nx,h2]
  exact ⟨_,_,rfl⟩)
 exact ⟨z4,z5,e⟩
theorem rounds_1 (hW:W.Ok) (hm:W.many < 400) (g:Good W a) (la:a.length = W.many) (y2 y3 y4 y5:Option T):∃ z3 z4 z5,g_law_sides_2_1_t_2 (LD W a y2 y3 y4 y5) = .nx (LD W (rnds W.ties W.many a) y2 z3 z4 z5):=by
 obtain ⟨ρ,e,z3,z4,z5,rfl⟩:=nx_of (o:=g_law_sides_2_1_t_2 (LD W a y2 y3 y4 y5)) (N:=fun ρ => ∃ z3 z4 z5,ρ = LD W (rnds W.ties W.many a) y2 z3 z4 z5) (by
  refine sat_rng (n:=W.many) rfl (ρ:=LD W a y2 y3 y4 y5) (by
    have z:in62 (W.many:Int) = true:=in62_of (by omega) (by omega)
    simp [z]) (fun k ρ => ∃ z3 z4 z5,ρ = LD W (rnds W.ties k a) y2 z3 z4 z5) ⟨y3,y4,y5,rfl⟩ (fun k hk ρ z => ?_) fun ρ z => z
  obtain ⟨z3,z4,z5,rfl⟩:=z
  rw [turn_setS (by simp)]
  simp only [List.set_cons_succ,List.set_cons_zero]
  obtain ⟨w4,w5,ev⟩:=round_1 hW (rnds_good hW g la k) ((rnds_mor W.ties a k).len.trans la) y2 (some (iT (k:Int))) z4 z5
  rw [ev]
  exact ⟨_,_,_,rfl⟩)
 exact ⟨z3,z4,z5,e⟩
theorem any_bs {α:Type} (f:α→Bool) (l:List α):kAny (.lst (l.map fun x => bT (f x))) = some (bT (l.any f)):=by
 have:asBools (l.map fun x => PyData.bool (f x)) = some (l.map f):=by
  have:=asBools_map (l.map f)
  rw [List.map_map] at this
  exact this
 simp [kAny,this]
noncomputable def likeB (W:Web):Bool:=W.ties.any fun q => decide (hAt (colF W W.many) q.1 = hAt (colF W W.many) q.2)
noncomputable def sidesT (W:Web):T:=if likeB W = true then .d .none else hL (colF W W.many)
theorem law_sides (hW:W.Ok) (hm:W.many < 400) (hn:W.ties.length < 1000):fn_law_sides [wT W] = .ret (sidesT W) [some (wT W)]:=by
 refine fn_to ?_
 show (g_law_sides [some (wT W),none,none,none,none,none]).sat _ _ _ _
 have hd:hT none = .d .none:=rfl
 have km:kMul (.lst [.d .none]) (iT (W.many:Int)) = some (hL (List.replicate W.many none)):=by
  have z2:W.many≤16777216:=by omega
  have z3:W.many < 9223372036854775808:=by omega
  have e:(List.replicate W.many [PyData.none]).flatten = List.replicate W.many PyData.none:=by
   rw [List.flatten_replicate_singleton]
  simp [sizeLine_eq,z2,z3,e,hL,hd]
 have s1:g_law_sides_1 [some (wT W),none,none,none,none,none] = .nx (LD W (colF W 0) none none none none):=by
  rw [colF]
  simp [g_law_sides_1,sizeLine_eq,km]
 rw [g_law_sides,sat_seq,s1,sat_nx,sat_seq]
 refine sat_rng (n:=W.many) rfl (ρ:=LD W (colF W 0) none none none none) (by
   have z:in62 (W.many:Int) = true:=in62_of (by omega) (by omega)
   simp [z]) (fun k ρ => ∃ z2 z3 z4 z5,ρ = LD W (colF W k) z2 z3 z4 z5) ⟨none,none,none,none,rfl⟩ (fun k hk ρ z => ?_) fun ρ z => ?_
 ·obtain ⟨z2,z3,z4,z5,rfl⟩:=z
  rw [turn_setS (by simp)]
  simp only [List.set_cons_succ,List.set_cons_zero]
  obtain ⟨l,g,sh,st⟩:=colF_ok hW k (by omega)
  have ix:=ixA_h (r:=colF W k) (t:=k) (by omega)
  have nk:=isNone_h (hAt (colF W k) k)
  rw [colF]
  cases e:hAt (colF W k) k with
  | some s =>
   rw [e] at ix nk
   simp only [Option.isNone_some,Bool.false_eq_true,if_false]
   generalize colF W k = a at ix
   have s2:g_law_sides_2_1 (LD W a (iT (k:Int)) z3 z4 z5) = .nx (LD W a (iT (k:Int)) z3 z4 z5):=by
    simp only [LD,hL] at ix ⊢
    simp [-kIxA_ev,g_law_sides_2_1,ix,nk]
   rw [s2]
   exact ⟨_,_,_,_,rfl⟩
  | none =>
   rw [e] at ix nk
   simp only [Option.isNone_none,if_true]
   generalize colF W k = a at ix l g sh st e
   have mn:∀ y,Rea W k y→k≤y:=fun y r => by
    by_cases lt:k≤y
    ·exact lt
    ·have:=shut_rea hW sh (r.symm hW) (st y (by omega))
     rw [e] at this
     cases this
   have g2:=good_root hW g l (by omega) e mn
   have l2:(a.set k (some 0)).length = W.many:=by simp [l]
   obtain ⟨w3,w4,w5,ev⟩:=rounds_1 hW hm g2 l2 (some (iT (k:Int))) z3 z4 z5
   have s20:g_law_sides_2_1 (LD W a (iT (k:Int)) z3 z4 z5) = (sSeq g_law_sides_2_1_t_1 g_law_sides_2_1_t_2) (LD W a (iT (k:Int)) z3 z4 z5):=by
    simp only [g_law_sides_2_1]
    simp only [LD,hL] at ix ⊢
    simp [-kIxA_ev,-sSeq_ev,ix,nk]
   have s21:g_law_sides_2_1_t_1 (LD W a (iT (k:Int)) z3 z4 z5) = .nx (LD W (a.set k (some 0)) (iT (k:Int)) z3 z4 z5):=by
    have hs:=h_set a k (some 0)
    have hd2:hT (some 0) = iT 0:=rfl
    have ixn:=ixN_nat (n:=a.length) (k:=k) (by omega)
    simp only [LD,hL] at hs ⊢
    rw [← hs,hd2]
    simp [g_law_sides_2_1_t_1,ixn]
   rw [s20,sat_seq,s21,sat_nx,ev]
   exact ⟨_,_,_,_,rfl⟩
 ·obtain ⟨z2,z3,z4,z5,rfl⟩:=z
  obtain ⟨l,g,sh,st⟩:=colF_ok hW W.many (Nat.le_refl _)
  unfold sidesT likeB
  generalize colF W W.many = a at l
  have c:=lc_all (c:=c_law_sides_1) (l:=W.ties) (enc:=fun q => T.d (tieD q)) (fun q => bT (decide (hAt a q.1 = hAt a q.2))) rfl (ρ0:=LD W a z2 z3 z4 z5) (ρ:=LD W a z2 z3 z4 z5) (w:=Src.it ⟨none,false,W.ties.map fun q => T.d (tieD q)⟩) (by simp; rfl) (rds_st false _ fun _ => True) rfl (by omega) trivial fun q hq => by
   have lq:=hW q hq
   have i1:=ixA_h (r:=a) (t:=q.1) (by omega)
   have i2:=ixA_h (r:=a) (t:=q.2) (by omega)
   have ke:=kEqv_h false (hAt a q.1) (hAt a q.2)
   refine ⟨LD W a z2 z3 (iT (q.1:Int)) (iT (q.2:Int)),by simp [tieD],by simp [tieD],?_⟩
   simp only [LD,hL] at i1 i2 ⊢
   simp [-kIxA_ev,i1,i2,ke]
  have an:=any_bs (fun q:Nat × Nat => decide (hAt a q.1 = hAt a q.2)) W.ties
  generalize (W.ties.map fun q => bT (decide (hAt a q.1 = hAt a q.2))) = BL at c an
  generalize (W.ties.any fun q => decide (hAt a q.1 = hAt a q.2)) = v at an
  rw [sat_seq]
  cases v with
  | true =>
   have s3:g_law_sides_3 (LD W a z2 z3 z4 z5) = .rt (.d .none) (LD W a z2 z3 (keepD z4) (keepD z5)):=by
    simp [g_law_sides_3,g_law_sides_3_t_1,c,an]
   rw [s3]
   exact ⟨rfl,by simp⟩
  | false =>
   have s3:g_law_sides_3 (LD W a z2 z3 z4 z5) = .nx (LD W a z2 z3 (keepD z4) (keepD z5)):=by
    simp [g_law_sides_3,c,an]
   rw [s3,sat_nx]
   simp [g_law_sides_4,hL]
end
section
variable {W:Web}
theorem both_ways2 (hW:W.Ok) (hm:W.many < 400) (hn:W.ties.length < 1000):(∃ c,Sided W c∧frzOf (sidesT W) = some (sD true ((List.range W.many).map c))∧datOf (sidesT W) = some (sD true ((List.range W.many).map c))∧fn_two_sides [wT W] = .ret (.tup [.d (.str "sides"),nL ((List.range W.many).map c)]) [some (wT W)])∨(frzOf (sidesT W) = some .none∧datOf (sidesT W) = some .none∧∃ R,Odd W R∧fn_two_sides [wT W] = .ret (.tup [.d (.str "ring"),nL R]) [some (wT W)]):=by
 obtain ⟨u,e,h⟩:=two_sides hW hm hn
 have co:=colF_ok hW W.many (Nat.le_refl _)
 cases hl:likeB W with
 | true =>
  right
  refine ⟨by simp [sidesT,hl],by simp [sidesT,hl],?_⟩
  rcases h with ⟨c,s,rfl⟩ | ⟨R,o,rfl⟩
  ·obtain ⟨q,hq,z⟩:=List.any_eq_true.mp hl
   obtain ⟨t,lt,rfl⟩:=List.mem_iff_getElem.mp hq
   have et:W.ties[t] = W.tie t:=by
    have:=tie_at W lt
    rw [List.getElem?_eq_getElem lt] at this
    exact Option.some.inj this
   rw [et] at z
   exact (col_no hW lt (by simpa using z) s).elim
  ·exact ⟨R,o,e⟩
 | false =>
  left
  have no:∀ t,t < W.ties.length→hAt (colF W W.many) (W.tie t).1≠hAt (colF W W.many) (W.tie t).2:=fun t lt z => by
   have:likeB W = true:=List.any_eq_true.mpr ⟨W.tie t,List.mem_of_getElem? (tie_at W lt),by simpa using z⟩
   rw [hl] at this
   cases this
  have sd:=col_yes hW no
  obtain ⟨l,g,sh,st⟩:=co
  have row:colF W W.many = (List.range W.many).map fun x => some ((hAt (colF W W.many) x).getD 0):=by
   refine List.ext_getElem (by simp [l]) fun i h1 h2 => ?_
   have i1:i < W.many:=by omega
   have z:=hAt_get (colF W W.many) h1
   rw [List.getElem?_eq_getElem h1] at z
   obtain ⟨s,es⟩:=Option.isSome_iff_exists.mp (st i i1)
   rw [Option.some.inj z,List.getElem_map,List.getElem_range,es]
   rfl
  refine ⟨_,sd,?_,?_,?_⟩
  ·have e1:sidesT W = hL (colF W W.many):=by simp [sidesT,hl]
   rw [e1]
   generalize hc:colF W W.many = a at row
   have fz:frzOf (hL a) = some (.list (a.map hD)):=by simp [hL]
   have e2:a.map hD = ((List.range W.many).map fun x => (hAt a x).getD 0).map fun k:Nat => PyData.int (k:Int):=by
    conv => lhs; rw [row]
    rw [List.map_map,List.map_map]
    rfl
   rw [fz,e2]
   rfl
  ·have e1:sidesT W = hL (colF W W.many):=by simp [sidesT,hl]
   rw [e1]
   generalize hc:colF W W.many = a at row
   have fz:datOf (hL a) = some (.list (a.map hD)):=by simp [hL]
   have e2:a.map hD = ((List.range W.many).map fun x => (hAt a x).getD 0).map fun k:Nat => PyData.int (k:Int):=by
    conv => lhs; rw [row]
    rw [List.map_map,List.map_map]
    rfl
   rw [fz,e2]
   rfl
  ·rcases h with ⟨c,s,rfl⟩ | ⟨R,o,rfl⟩
   ·have:(List.range W.many).map c = (List.range W.many).map fun x => (hAt (colF W W.many) x).getD 0:=by
     apply List.map_congr_left
     intro x hx
     exact Sided.one hW s sd (List.mem_range.mp hx)
    rw [this] at e
    exact e
   ·exact (Odd.none hW o sd.two sd.far').elim
end
section
abbrev DR (t:Tape) (g:Bool) (m:Nat) (left names:List Nat) (ps qs:List (Int × Int)) (y7 y8 y9:Option T):Rho:=[some (tT t),some (bT g),some (iT (m:Int)),some (nL left),some (nL names),some (pL ps),some (pL qs),y7,y8,y9,none]
theorem drawn_5 (t:Tape) (g:Bool) (m:Nat) (hm:m≤12):(g_law_drawn_5 [some (tT t),some (bT g),some (iT (m:Int)),some (nL (List.range (m + 2))),some (nL []),none,none,none,none,none,none]).sat (fun ρ => ∃ t' ns,ns.Perm (List.range (m + 2))∧ρ = [some (tT t'),some (bT g),some (iT (m:Int)),some (nL []),some (nL ns),none,none,none,none,none,none]) noC noR noX:=by
 refine sat_while rfl (fun n ρ => ∃ t' le fo,le.length = n∧List.Perm (fo++le) (List.range (m + 2))∧ρ = [some (tT t'),some (bT g),some (iT (m:Int)),some (nL le),some (nL fo),none,none,none,none,none,none]) (n:=m + 2) ⟨t,List.range (m + 2),[],by simp,by simp,rfl⟩ fun n ρ z => ?_
 obtain ⟨t',le,fo,hl,pm,rfl⟩:=z
 have pl:=pm.length_eq
 simp at pl
 have ke:=kEqv_le true (f:=fun k:Nat => PyData.int (k:Int)) (n:=0) (fun a => .int 0 _) le
 cases hc:le with
 | nil =>
  subst hc
  have ke:kEqv true (.lst []) (.lst []) = some (bT false):=by simpa using ke
  refine ⟨false,[some (tT t'),some (bT g),some (iT (m:Int)),some (nL []),some (nL fo),none,none,none,none,none,none],by simp [nL,ke,sizeLine_eq],fun _ => ?_,fun h => (by cases h)⟩
  exact ⟨t',fo,by simpa using pm,rfl⟩
 | cons x0 l0 =>
  rw [← hc]
  have pos:0 < le.length:=by rw [hc]; simp
  have ke:kEqv true (nL le) (.lst []) = some (bT true):=by
   have:le.isEmpty = false:=by rw [hc]; rfl
   rw [this] at ke
   exact ke
  refine ⟨true,[some (tT t'),some (bT g),some (iT (m:Int)),some (nL le),some (nL fo),none,none,none,none,none,none],by simp [ke,sizeLine_eq],fun h => (by cases h),fun _ => ?_⟩
  have m1:0 < (le.length:Int):=by omega
  have d:=draw t' (m:=(le.length:Int)) m1 (by omega)
  have a1:=dV_nn t' m1
  have a2:=dV_lt t' m1
  generalize dV t' (le.length:Int) = v at d a1 a2
  obtain ⟨j,rfl,hj⟩:∃ j:Nat,v = (j:Int)∧j < le.length:=⟨v.toNat,by omega,by omega⟩
  generalize dT t' (le.length:Int) = t2 at d
  have pa:=popAt_n (le.map fun k:Nat => iT (k:Int)) (j:=j) (by simpa using hj) (by simp; omega)
  rw [List.getElem_map] at pa
  have pe:(le.map fun k:Nat => iT (k:Int)).eraseIdx j = (le.eraseIdx j).map fun k:Nat => iT (k:Int):=by
   rw [List.eraseIdx_eq_take_drop_succ,List.eraseIdx_eq_take_drop_succ,List.map_append,List.map_take,List.map_drop]
  rw [pe] at pa
  have el:=List.length_eraseIdx_of_lt hj
  have pp:=perm_pop (fo:=fo) hj
  have z:fo.length < 16777216:=by omega
  have s1:g_law_drawn_5_1 [some (tT t'),some (bT g),some (iT (m:Int)),some (nL le),some (nL fo),none,none,none,none,none,none] = .nx [some (tT t2),some (bT g),some (iT (m:Int)),some (nL (le.eraseIdx j)),some (nL (fo++[le[j]])),none,none,none,none,none,none]:=by
   simp [nL,g_law_drawn_5_1,d,pa,sizeLine_eq,z]
  rw [s1]
  exact ⟨(le.eraseIdx j).length,by omega,t2,_,_,rfl,pp.trans pm,rfl⟩
theorem drawn_6 (t:Tape) (g:Bool) (m:Nat) (h3:3≤m) (hm:m≤12) (ns:List Nat):∃ ps t',PG ((m:Int) + 2) ps∧ps.length = m + 2∧g_law_drawn_6 [some (tT t),some (bT g),some (iT (m:Int)),some (nL []),some (nL ns),none,none,none,none,none,none] = .nx [some (tT t'),some (bT g),some (iT (m:Int)),some (nL []),some (nL ns),some (pL ps),none,none,none,none,none]:=by
 have hm':0 < (m:Int):=by omega
 have hm2:0 < m:=by omega
 have d:=draw t (m:=(m:Int)) (by omega) (by omega)
 have a1:=dV_nn t (m:=(m:Int)) (by omega)
 have a2:=dV_lt t (m:=(m:Int)) (by omega)
 have c:=lc_run (c:=c_law_drawn_1) (l:=rgI 0 (m:Int).toNat) (enc:=iT) (fun _ => true) (fun k => pT (k,(k + 1) % (m:Int))) rfl (ρ0:=[some (tT t),some (bT g),some (iT (m:Int)),some (nL []),some (nL ns),none,none,none,none,none,none]) (w:=rng 0 (m:Int).toNat) (ρ:=[some (tT t),some (bT g),some (iT (m:Int)),some (nL []),some (nL ns),none,none,none,none,none,none])
  (by
   have b:in62 (m:Int) = true:=in62_of (by omega) (by omega)
   simp [b]) (rds_rng 0 _ fun _ => True) rfl (by rw [rgI_length]; omega) trivial
  (fun k hk => ⟨_,by simp; rfl,by simp,by simp,fun _ => by simp [hm2,sizeLine_eq,pT]⟩)
 refine ⟨(rgI 0 (m:Int).toNat).map (fun k => (k,(k + 1) % (m:Int)))++[((m:Int),dV t (m:Int)),((m:Int),(m:Int) + 1)],dT t (m:Int),?_,?_,?_⟩
 ·refine PG.app (fun p hp => ?_) (PG.app (ps:=[((m:Int),dV t (m:Int))]) (PG.one ⟨by omega,by omega,by omega,by omega,by omega⟩) (PG.one ⟨by omega,by omega,by omega,by omega,by omega⟩))
  obtain ⟨k,hk,rfl⟩:=List.mem_map.mp hp
  have:=rgI_mem hk
  have q1:=Int.emod_nonneg (k + 1) (b:=(m:Int)) (by omega)
  have q2:=Int.emod_lt_of_pos (k + 1) hm'
  refine ⟨this.1,by omega,q1,by omega,?_⟩
  intro e
  simp only at e
  by_cases c:k + 1 < (m:Int)
  ·rw [Int.emod_eq_of_lt (by omega) c] at e; omega
  ·have:(k + 1) % (m:Int) = 0:=by
    have:k + 1 = (m:Int):=by omega
    rw [this]; simp
   omega
 ·simp [rgI_length]
 ·have hl:(rgI 0 (m:Int).toNat).length = m:=by simp [rgI_length]
  have e1:List.map (fun k:Int => pT (k,(k + 1) % (m:Int))) (rgI 0 (m:Int).toNat) = ((rgI 0 (m:Int).toNat).map fun k => PyData.tuple [.int k,.int ((k + 1) % (m:Int))]).map T.d:=by simp [pT]
  have hz:m + 2≤16777216:=by omega
  simp only [filter_yes,e1] at c
  generalize rgI 0 (m:Int).toNat = rl at c hl
  have hz3:rl.length + 2≤16777216:=by omega
  simp [g_law_drawn_6,c,d,sizeLine_eq,hz3,pL,pT]
theorem drawn_8 (t:Tape) (g:Bool) (m:Nat) (hm:m≤12) {ns:List Nat} (pm:ns.Perm (List.range (m + 2))) {ps:List (Int × Int)} (h3:PG ((m:Int) + 2) ps) (h4:ps.length = m + 2):(g_law_drawn_8 (DR t g m [] ns ps [] none none none)).sat (fun ρ => ∃ t' qs y7 y8 y9,QG ((m:Int) + 2) qs∧qs.length = ps.length∧ρ = DR t' g m [] ns ps qs y7 y8 y9) noC noR noX:=by
 have nl:ns.length = m + 2:=by simpa using pm.length_eq
 have nd:ns.Nodup:=pm.nodup_iff.mpr List.nodup_range
 refine sat_list (l:=ps) (enc:=pT) rfl (ρ:=DR t g m [] ns ps [] none none none) (w:=Src.it ⟨some 5,true,(ps.map fun p => PyData.tuple [.int p.1,.int p.2]).map T.d⟩) (by
   simp only [gSeq_ev,src_nm,getS_succ,getS_zero]
   simp [pL]) (by rw [pT_map]; exact rds_sl 5 true _) rfl
  (fun pre _ ρ => ∃ qs t' y7 y8 y9,QG ((m:Int) + 2) qs∧qs.length = pre.length∧ρ = DR t' g m [] ns ps qs y7 y8 y9)
  (fun pre post ρ h => by
   obtain ⟨qs,t',y7,y8,y9,_,_,rfl⟩:=h
   exact ⟨pL ps,by simp,by simp [pL]⟩) ⟨[],t,none,none,none,by simp [QG],rfl,rfl⟩ (fun pre p post ρ hps h => ?_) fun ρ h => ?_
 ·obtain ⟨qs,t',y7,y8,y9,hq,hl,rfl⟩:=h
  have hp:=h3 p (by rw [hps]; simp)
  have hlen:ps.length = pre.length + (post.length + 1):=by rw [hps]; simp
  obtain ⟨⟨a,ea⟩,⟨b,eb⟩⟩:(∃ a:Nat,p.1 = (a:Int))∧∃ b:Nat,p.2 = (b:Int):=⟨⟨p.1.toNat,by omega⟩,⟨p.2.toNat,by omega⟩⟩
  rw [ea,eb] at hp
  have la:a < ns.length:=by omega
  have lb:b < ns.length:=by omega
  have ia:=atI_ns ns la
  have ib:=atI_ns ns lb
  have ma:ns[a] < m + 2:=List.mem_range.mp (pm.mem_iff.mp (List.getElem_mem la))
  have mb:ns[b] < m + 2:=List.mem_range.mp (pm.mem_iff.mp (List.getElem_mem lb))
  have ne:ns[a]≠ns[b]:=fun z => by
   have pw:=List.pairwise_iff_getElem.mp nd
   have ab:a≠b:=fun q => hp.2.2.2.2 (by rw [q])
   rcases Nat.lt_or_gt_of_ne ab with lt | lt
   ·exact pw a b la lb lt z
   ·exact pw b a lb la lt z.symm
  generalize ns[a] = x at ia ma ne
  generalize ns[b] = y at ib mb ne
  have d:=draw t' (m:=(qs.length:Int) + 1) (by omega) (by omega)
  have b1:=dV_nn t' (m:=(qs.length:Int) + 1) (by omega)
  have b2:=dV_lt t' (m:=(qs.length:Int) + 1) (by omega)
  generalize dV t' ((qs.length:Int) + 1) = j at d b1 b2
  generalize dT t' ((qs.length:Int) + 1) = t2 at d
  have n1:j.natAbs < 4611686018427387904:=by omega
  have n2:qs.length < 16777216:=by omega
  have ep:pT p = .d (.tuple [.int (a:Int),.int (b:Int)]):=by rw [pT,ea,eb]
  have tn:turn (setTup [setS 7,setS 8]) (sSeq g_law_drawn_8_1 g_law_drawn_8_2) (pT p) (DR t' g m [] ns ps qs y7 y8 y9) = sSeq g_law_drawn_8_1 g_law_drawn_8_2 (DR t' g m [] ns ps qs (some (iT (a:Int))) (some (iT (b:Int))) y9):=by
   rw [ep]
   simp [turn,-sSeq_ev]
  rw [tn,sat_seq]
  have s1:g_law_drawn_8_1 (DR t' g m [] ns ps qs (some (iT (a:Int))) (some (iT (b:Int))) y9) = .nx (DR t' g m [] ns ps qs (some (iT (a:Int))) (some (iT (b:Int))) (some (pT (min (x:Int) y,max (x:Int) y)))):=by
   simp [g_law_drawn_8_1,nL,ia,ib,sizeLine_eq,pT]
  have s2:g_law_drawn_8_2 (DR t' g m [] ns ps qs (some (iT (a:Int))) (some (iT (b:Int))) (some (pT (min (x:Int) y,max (x:Int) y)))) = .nx (DR t2 g m [] ns ps (qs.take j.toNat++(min (x:Int) y,max (x:Int) y) :: qs.drop j.toNat) (some (iT (a:Int))) (some (iT (b:Int))) (some (pT (min (x:Int) y,max (x:Int) y)))):=by
   simp [g_law_drawn_8_2,pL,pT,d,sizeLine_eq,b1,n1,n2]
  rw [s1,sat_nx,s2]
  refine ⟨_,_,_,_,_,fun q hq' => ?_,?_,rfl⟩
  ·rcases List.mem_append.mp hq' with z | z
   ·exact hq q (List.mem_of_mem_take z)
   ·rcases List.mem_cons.mp z with rfl | z
    ·exact ⟨by simp only; omega,by simp only; omega,by simp only; omega⟩
    ·exact hq q (List.mem_of_mem_drop z)
  ·simp
   omega
 ·obtain ⟨qs,t',y7,y8,y9,hq,hl,rfl⟩:=h
  exact ⟨t',qs,y7,y8,y9,hq,by simpa using hl,rfl⟩
theorem drawn (t:Tape) (g:Bool):∃ (W:Web) (t':Tape),W.Ok∧W.many≤14∧W.ties.length≤39∧fn_law_drawn [tT t,bT g] = .ret (wT W) [some (tT t'),some (bT g)]:=by
 have d:=draw t (m:=4) (by omega) (by omega)
 have a1:=dV_nn t (m:=4) (by omega)
 generalize dV t 4 = v at d a1
 generalize dT t 4 = t1 at d
 have key:∃ u back,fn_law_drawn [tT t,bT g] = .ret u back∧∃ (W:Web) (t':Tape),W.Ok∧W.many≤14∧W.ties.length≤39∧u = wT W∧back = [some (tT t'),some (bT g)]:=by
  refine fn_ret ?_
  show (g_law_drawn [some (tT t),some (bT g),none,none,none,none,none,none,none,none,none]).sat _ _ _ _
  by_cases c:0 < v
  ·obtain ⟨W,t2,hW,hm,hn,e⟩:=web t1 g
   have s1:g_law_drawn_1 [some (tT t),some (bT g),none,none,none,none,none,none,none,none,none] = .rt (wT W) [some (tT t2),some (bT g),none,none,none,none,none,none,none,none,none]:=by
    simp [g_law_drawn_1,g_law_drawn_1_t_1,d,c,e]
   rw [g_law_drawn,sSeq_ev,s1]
   exact ⟨W,t2,hW,by omega,hn,rfl,by simp⟩
  ·have s1:g_law_drawn_1 [some (tT t),some (bT g),none,none,none,none,none,none,none,none,none] = .nx [some (tT t1),some (bT g),none,none,none,none,none,none,none,none,none]:=by
    simp [g_law_drawn_1,d,c]
   have s2:∃ (m:Nat) (t2:Tape),3≤m∧m≤12∧g_law_drawn_2 [some (tT t1),some (bT g),none,none,none,none,none,none,none,none,none] = .nx [some (tT t2),some (bT g),some (iT (m:Int)),none,none,none,none,none,none,none,none]:=by
    cases g with
    | false =>
     have d:=draw t1 (m:=5) (by omega) (by omega)
     have b1:=dV_nn t1 (m:=5) (by omega)
     have b2:=dV_lt t1 (m:=5) (by omega)
     obtain ⟨n,en⟩:∃ n:Nat,dV t1 5 = (n:Int):=⟨(dV t1 5).toNat,by omega⟩
     rw [en] at d b2
     exact ⟨3 + n,dT t1 5,by omega,by omega,by simp [g_law_drawn_2,d]⟩
    | true =>
     have d:=draw t1 (m:=9) (by omega) (by omega)
     have b1:=dV_nn t1 (m:=9) (by omega)
     have b2:=dV_lt t1 (m:=9) (by omega)
     obtain ⟨n,en⟩:∃ n:Nat,dV t1 9 = (n:Int):=⟨(dV t1 9).toNat,by omega⟩
     rw [en] at d b2
     exact ⟨3 + n,dT t1 9,by omega,by omega,by simp [g_law_drawn_2,d]⟩
   obtain ⟨m,t2,h3,hm,s2⟩:=s2
   have kr:=kLr1_n (m + 2) (by omega)
   have em:((m + 2:Nat):Int) = (m:Int) + 2:=by omega
   rw [em] at kr
   have s3:g_law_drawn_3 [some (tT t2),some (bT g),some (iT (m:Int)),none,none,none,none,none,none,none,none] = .nx [some (tT t2),some (bT g),some (iT (m:Int)),some (nL (List.range (m + 2))),none,none,none,none,none,none,none]:=by
    simp [g_law_drawn_3,kr]
   have s4:g_law_drawn_4 [some (tT t2),some (bT g),some (iT (m:Int)),some (nL (List.range (m + 2))),none,none,none,none,none,none,none] = .nx [some (tT t2),some (bT g),some (iT (m:Int)),some (nL (List.range (m + 2))),some (nL []),none,none,none,none,none,none]:=by
    simp [g_law_drawn_4,sizeLine_eq,nL]
   rw [g_law_drawn,sat_seq,s1,sat_nx,sat_seq,s2,sat_nx,sat_seq,s3,sat_nx,sat_seq,s4,sat_nx,sat_seq]
   refine (drawn_5 t2 g m hm).imp (fun ρ z => ?_) (fun _ h => h.elim) (fun _ _ h => h.elim) fun _ _ _ h => h.elim
   obtain ⟨t3,ns,pm,rfl⟩:=z
   obtain ⟨ps,t4,p1,p2,s6⟩:=drawn_6 t3 g m h3 hm ns
   have s7:g_law_drawn_7 [some (tT t4),some (bT g),some (iT (m:Int)),some (nL []),some (nL ns),some (pL ps),none,none,none,none,none] = .nx (DR t4 g m [] ns ps [] none none none):=by
    simp [g_law_drawn_7,sizeLine_eq,pL]
   rw [sat_seq,s6,sat_nx,sat_seq,s7,sat_nx,sat_seq]
   refine (drawn_8 t4 g m hm pm p1 p2).imp (fun ρ z => ?_) (fun _ h => h.elim) (fun _ _ h => h.elim) fun _ _ _ h => h.elim
   obtain ⟨t5,qs,y7,y8,y9,hq,hl,rfl⟩:=z
   obtain ⟨ties,rfl,ht⟩:=toNat_pairs hq
   have s9:g_law_drawn_9 (DR t5 g m [] ns ps (ties.map fun p => ((p.1:Int),(p.2:Int))) y7 y8 y9) = .rt (.d (.tuple [.int ((m:Int) + 2),.tuple (ties.map tieD)])) (DR t5 g m [] ns ps (ties.map fun p => ((p.1:Int),(p.2:Int))) y7 y8 y9):=by
    simp [g_law_drawn_9,pL,sizeLine_eq]
    intro _ _ _
    rfl
   rw [s9]
   refine ⟨⟨m + 2,ties⟩,t5,fun p hp => ?_,by simp only; omega,?_,?_,by simp⟩
   ·have:=ht p hp
    simp only
    omega
   ·simp at hl
    simp only
    omega
   ·simp [wT,Web.d]
 obtain ⟨u,back,e,W,t',h1,h2,h3,rfl,rfl⟩:=key
 exact ⟨W,t',h1,h2,h3,e⟩
end
def sQ (b:Bool) (xs:List D):D:=if b then .list xs else .tuple xs
theorem sQ_isi (b:Bool) (xs:List D):kIsi2 .list .tuple (.d (sQ b xs)) = some (bT true):=by cases b <;> rfl
theorem sQ_len (b:Bool) (xs:List D):kLenA (.d (sQ b xs)) = some (iT (xs.length:Int)):=by cases b <;> simp [sQ]
theorem sQ_list (b:Bool) (xs:List D):kListOf (.d (sQ b xs)) = some (.lst (xs.map T.d)):=by cases b <;> simp [sQ]
theorem sQ_src (b:Bool) (xs:List D) (i:Nat):slotSrc i (.d (sQ b xs)) = some ⟨some i,b,xs.map T.d⟩:=by cases b <;> simp [sQ]
theorem sQ_seq (b:Bool) (xs:List D):seqK b (.d (sQ b xs)) = some xs:=by cases b <;> rfl
theorem sQ_nat (b:Bool) (R:List Nat):sQ b (R.map fun k:Nat => .int (k:Int)) = sD b R:=rfl
def inB (n:Nat):D→Bool
 | .int i => decide (0≤i)&&decide (i < (n:Int))
 | _ => false
theorem all_nats {n:Nat}:∀ {xs:List D},xs.all (inB n) = true→∃ R:List Nat,xs = R.map (fun k:Nat => .int (k:Int))∧∀ t,t∈R→t < n
 | [],_ => ⟨[],rfl,by simp⟩
 | x :: xs,h => by
  simp only [List.all_cons,Bool.and_eq_true] at h
  obtain ⟨R,rfl,l⟩:=all_nats h.2
  have h1:=h.1
  cases x with
  | int i =>
   simp only [inB,Bool.and_eq_true,decide_eq_true_eq] at h1
   obtain ⟨t,rfl⟩:∃ t:Nat,i = (t:Int):=⟨i.toNat,by omega⟩
   exact ⟨t :: R,rfl,fun u hu => by
    (rcases List.mem_cons.mp hu with rfl | hu)
    ·omega
    ·exact l u hu⟩
  | _ => cases h1
theorem nats_all {n:Nat} {R:List Nat} (l:∀ t,t∈R→t < n):(R.map (fun k:Nat => PyData.int (k:Int))).all (inB n) = true:=by
 rw [List.all_eq_true]
 intro x hx
 obtain ⟨k,hk,rfl⟩:=List.mem_map.mp hx
 have:=l k hk
 simp [inB]
 omega
theorem not_seq {x:D} (h:ndD x = true) (h2:∀ b xs,x≠sQ b xs):kIsi2 .list .tuple (.d x) = some (bT false):=by
 cases x with
 | dict l => cases h
 | list xs => exact absurd rfl (h2 true xs)
 | tuple xs => exact absurd rfl (h2 false xs)
 | _ => rfl
section
variable {W:Web}
theorem are_flat {x:D} (h:ndD x = true) (h2:∀ b xs,x≠sQ b xs):fn_are_sides [wT W,.d x] = .ret (bT false) [some (wT W),some (.d x)]:=by
 have k:=not_seq h h2
 simp [fn_are_sides,fnOf_ev,g_are_sides,g_are_sides_1,g_are_sides_1_t_1,k]
theorem are_len {b:Bool} {xs:List D} (h:xs.length≠W.many):fn_are_sides [wT W,.d (sQ b xs)] = .ret (bT false) [some (wT W),some (.d (sQ b xs))]:=by
 have k1:=sQ_isi b xs
 have k2:=sQ_len b xs
 have c:¬ (xs.length:Int) = (W.many:Int):=by omega
 generalize (xs.length:Int) = n at k2 c
 generalize sQ b xs = X at k1 k2
 simp [fn_are_sides,fnOf_ev,g_are_sides,g_are_sides_1,g_are_sides_1_t_1,k1,k2,c]
theorem are_all {b:Bool} {xs:List D} (nd:∀ x,x∈xs→ndD x = true) (hl:xs.length≤900):c_are_sides_1 [some (wT W),some (.d (sQ b xs)),none,none] = .ok (.lst (xs.map fun x => bT (inB 2 x))) [some (wT W),some (.d (sQ b xs)),none,none]:=by
 have src:=sQ_src b xs 1
 exact lc_all (c:=c_are_sides_1) (l:=xs) (enc:=T.d) (fun x => bT (inB 2 x)) rfl (ρ0:=[some (wT W),some (.d (sQ b xs)),none,none]) (ρ:=[some (wT W),some (.d (sQ b xs)),none,none]) (w:=Src.it ⟨some 1,b,xs.map T.d⟩) (by simp [src]) (rds_sl 1 b xs) rfl (by omega) ⟨_,rfl,sQ_seq b xs⟩ fun x hx => by
  have nk:=is_numberD x (nd x hx)
  refine ⟨[some (wT W),some (.d (sQ b xs)),none,some (.d x)],by simp,by simp,?_⟩
  have nx:=nd x hx
  cases x with
  | int i =>
   simp only [isInt] at nk
   by_cases c1:0≤i <;> by_cases c2:i < 2
   ·have c3:i≤1:=by omega
    simp [nk,inB,c1,c2,c3]
   ·have c3:¬ i≤1:=by omega
    simp [nk,inB,c1,c2,c3]
   ·simp [nk,inB,c1,c2]
   ·simp [nk,inB,c1,c2]
  | dict l => cases nx
  | _ =>
   simp only [isInt] at nk
   simp [nk,inB]
theorem ke_ints (a b:List Int) {t u:T} (h1:datOf t = some (.list (a.map PyData.int))) (h2:datOf u = some (.list (b.map PyData.int))):kEqv false t u = some (bT (decide (a = b))):=by
 have nb:∀ l:List Int,nbD (.list (l.map PyData.int)) = true:=fun l => by
  induction l with
  | nil => rfl
  | cons x l ih => simpa using ih
 rw [kEqv_at (n:=1) h1 h2 (.list (.map fun a _ => .int 0 _)) (.list (.map fun a _ => .int 0 _)),eqv_nb (nb a) (nb b) (a = b) ⟨fun h => h ▸ rfl,fun h => ?_⟩]
 ·rfl
 ·have h:=PyData.list.inj h
  exact List.map_inj_right (fun x y e => PyData.int.inj e) |>.mp h
theorem cast_map (l:List Nat):(l.map fun k:Nat => PyData.int (k:Int)) = (l.map fun k:Nat => (k:Int)).map PyData.int:=by rw [List.map_map]; rfl
def SdOk (W:Web) (xs:List D):Prop:=∃ c,Sided W c∧xs = ((List.range W.many).map c).map (fun k:Nat => .int (k:Int))
theorem are_sides_any (hW:W.Ok) (hm:W.many < 400) (hn:W.ties.length < 1000) {b:Bool} {xs:List D} (nd:∀ x,x∈xs→ndD x = true) (hl:xs.length≤900):∃ v,(v = true↔SdOk W xs)∧fn_are_sides [wT W,.d (sQ b xs)] = .ret (bT v) [some (wT W),some (.d (sQ b xs))]:=by
 by_cases l:xs.length = W.many
 ·have k1:=sQ_isi b xs
  have k2:=sQ_len b xs
  have k3:=sQ_list b xs
  have ca:=are_all (W:=W) (b:=b) nd hl
  have am:=all_map (inB 2) xs
  have s1:g_are_sides_1 [some (wT W),some (.d (sQ b xs)),none,none] = .nx [some (wT W),some (.d (sQ b xs)),none,none]:=by
   simp [g_are_sides_1,k1,k2,l]
  generalize hX:sQ b xs = X at k1 k2 k3 ca s1
  generalize hL:(T.lst (xs.map fun x => bT (inB 2 x))) = L at ca am
  cases e:xs.all (inB 2) with
  | false =>
   rw [e] at am
   refine ⟨false,⟨nofun,?_⟩,?_⟩
   ·rintro ⟨c,s,rfl⟩
    rw [nats_all fun t ht => by
     obtain ⟨p,hp,rfl⟩:=List.mem_map.mp ht
     exact s.two p (List.mem_range.mp hp)] at e
    cases e
   ·refine fn_to ?_
    show (g_are_sides [some (wT W),some (.d X),none,none]).sat _ _ _ _
    have s2:g_are_sides_2 [some (wT W),some (.d X),none,none] = .rt (bT false) [some (wT W),some (.d X),none,none]:=by
     simp [g_are_sides_2,g_are_sides_2_t_1,ca,am]
    rw [g_are_sides,sat_seq,s1,sat_nx,sat_seq,s2]
    simp
  | true =>
   rw [e] at am
   obtain ⟨R,rfl,lo⟩:=all_nats e
   obtain ⟨u,eu,hu⟩:=two_sides hW hm hn
   have s2:g_are_sides_2 [some (wT W),some (.d X),none,none] = .nx [some (wT W),some (.d X),none,none]:=by
    simp [g_are_sides_2,ca,am]
   have s3:g_are_sides_3 [some (wT W),some (.d X),none,none] = .nx [some (wT W),some (.d X),some (u),none]:=by
    have b0:∀ m:Bool,backL m [.nm 0] [false] [some (wT W)] [some (wT W),some (.d X),none,none] = [some (wT W),some (.d X),none,none]:=fun m => by cases m <;> rfl
    simp [g_are_sides_3,eu,b0]
   have fin:∀ v,g_are_sides_4 [some (wT W),some (.d X),some (u),none] = .rt (bT v) [some (wT W),some (.d X),some (u),none]→fn_are_sides [wT W,.d X] = .ret (bT v) [some (wT W),some (.d X)]:=fun v s4 => by
    refine fn_to ?_
    show (g_are_sides [some (wT W),some (.d X),none,none]).sat _ _ _ _
    rw [g_are_sides,sat_seq,s1,sat_nx,sat_seq,s2,sat_nx,sat_seq,s3,sat_nx,s4]
    simp
   rcases hu with ⟨c,s,rfl⟩ | ⟨R',o,rfl⟩
   ·refine ⟨decide (R = (List.range W.many).map c),⟨fun h => ?_,?_⟩,fin _ ?_⟩
    ·exact ⟨c,s,by rw [of_decide_eq_true h]⟩
    ·rintro ⟨c',s',h⟩
     have:R = (List.range W.many).map c':=List.map_inj_right (fun x y e => by
      have:=PyData.int.inj e
      omega) |>.mp h
     rw [decide_eq_true_eq,this]
     exact List.map_congr_left fun x hx => Sided.one hW s' s (List.mem_range.mp hx)
    ·generalize (List.range W.many).map c = cs
     have ke:kEqv false (.lst ((R.map fun k:Nat => PyData.int (k:Int)).map T.d)) (nL cs) = some (bT (decide (R = cs))):=by
      rw [ke_ints (R.map fun k:Nat => (k:Int)) (cs.map fun k:Nat => (k:Int)) (by simp [Function.comp_def]) (by simp [nL,Function.comp_def])]
      have:((R.map fun k:Nat => (k:Int)) = cs.map fun k:Nat => (k:Int))↔R = cs:=⟨fun h => List.map_inj_right (fun x y e => by omega) |>.mp h,fun h => by rw [h]⟩
      rw [decide_eq_decide.mpr this]
     generalize ((R.map fun k:Nat => PyData.int (k:Int)).map T.d) = rs at k3 ke
     simp [g_are_sides_4,ke_si,k3,ke]
   ·refine ⟨false,⟨nofun,?_⟩,fin _ ?_⟩
    ·rintro ⟨c,s,h⟩
     exact (Odd.none hW o s.two s.far').elim
    ·simp [g_are_sides_4,ke_rs]
 ·refine ⟨false,⟨nofun,?_⟩,are_len l⟩
  rintro ⟨c,s,rfl⟩
  simp at l
def RgOk (W:Web) (xs:List D):Prop:=∃ R:List Nat,xs = R.map (fun k:Nat => .int (k:Int))∧(∀ t,t∈R→t < W.ties.length)∧3≤R.length∧R.length % 2 = 1∧(grB W R (W.tie (R.headD 0)).1||grB W R (W.tie (R.headD 0)).2) = true
theorem ring_flat {x:D} (h:ndD x = true) (h2:∀ b xs,x≠sQ b xs):fn_is_ring [wT W,.d x] = .ret (bT false) [some (wT W),some (.d x)]:=by
 have k:=not_seq h h2
 simp [fn_is_ring,fnOf_ev,g_is_ring,g_is_ring_1,g_is_ring_1_t_1,k]
theorem is_ring_any {b:Bool} {xs:List D} (nd:∀ x,x∈xs→ndD x = true) (hl:xs.length≤900):∃ v,(v = true↔RgOk W xs)∧fn_is_ring [wT W,.d (sQ b xs)] = .ret (bT v) [some (wT W),some (.d (sQ b xs))]:=by
 have k1:=sQ_isi b xs
 have k2:=sQ_len b xs
 by_cases l:3≤xs.length∧xs.length % 2 = 1
 ·have c1:¬ (xs.length:Int) < 3:=by omega
  have c2:¬ (xs.length:Int) % 2 = 0:=by omega
  have s1:g_is_ring_1 [some (wT W),some (.d (sQ b xs)),none,none] = .nx [some (wT W),some (.d (sQ b xs)),none,none]:=by
   simp [g_is_ring_1,k1,k2,c1,c2]
  have src:=sQ_src b xs 1
  have ca:=lc_all (c:=c_is_ring_1) (l:=xs) (enc:=T.d) (fun x => bT (inB W.ties.length x)) rfl (ρ0:=[some (wT W),some (.d (sQ b xs)),none,none]) (ρ:=[some (wT W),some (.d (sQ b xs)),none,none]) (w:=Src.it ⟨some 1,b,xs.map T.d⟩) (by simp [src]) (rds_sl 1 b xs) rfl (by omega) ⟨_,rfl,sQ_seq b xs⟩ fun x hx => by
   have nk:=is_numberD x (nd x hx)
   refine ⟨[some (wT W),some (.d (sQ b xs)),none,some (.d x)],by simp,by simp,?_⟩
   have nx:=nd x hx
   cases x with
   | int i =>
    simp only [isInt] at nk
    by_cases c1:0≤i <;> by_cases c2:i < (W.ties.length:Int) <;> simp [nk,inB,c1,c2]
   | dict l => cases nx
   | _ =>
    simp only [isInt] at nk
    simp [nk,inB]
  have am:=all_map (inB W.ties.length) xs
  generalize hL:(T.lst (xs.map fun x => bT (inB W.ties.length x))) = L at ca am
  cases e:xs.all (inB W.ties.length) with
  | false =>
   rw [e] at am
   refine ⟨false,⟨nofun,?_⟩,?_⟩
   ·rintro ⟨R,rfl,lo,_⟩
    rw [nats_all lo] at e
    cases e
   ·refine fn_to ?_
    show (g_is_ring [some (wT W),some (.d (sQ b xs)),none,none]).sat _ _ _ _
    have s2:g_is_ring_2 [some (wT W),some (.d (sQ b xs)),none,none] = .rt (bT false) [some (wT W),some (.d (sQ b xs)),none,none]:=by
     simp [g_is_ring_2,g_is_ring_2_t_1,ca,am]
    rw [g_is_ring,sat_seq,s1,sat_nx,sat_seq,s2]
    simp
  | true =>
   rw [e] at am
   obtain ⟨R,rfl,lo⟩:=all_nats e
   simp only [List.length_map] at l hl
   rw [sQ_nat] at s1 ca ⊢
   have s2:g_is_ring_2 [some (wT W),some (.d (sD b R)),none,none] = .nx [some (wT W),some (.d (sD b R)),none,none]:=by
    simp [g_is_ring_2,ca,am]
   cases hR:R with
   | nil => rw [hR] at l; simp at l
   | cons t0 R0 =>
   rw [← hR]
   have ne:R≠[]:=by rw [hR]; simp
   have h0:R.headD 0 = t0:=by rw [hR]; rfl
   have lt0:t0 < W.ties.length:=lo t0 (by rw [hR]; simp)
   have at0:=atI_ties W lt0
   have ix0:kIxA (.d (sD b R)) (iT 0) = some (iT (t0:Int)):=by
    rw [hR]
    cases b <;> simp [sD]
   have ixw:kIxA (.d (.tuple (W.ties.map tieD))) (iT (t0:Int)) = some (.d (tieD (W.tie t0))):=by simp [at0]
   have g1:=fun p => goes_round (W:=W) b (p:=p) lo ne (by omega)
   have c3:=lc_all (c:=c_is_ring_2) (l:=[(W.tie t0).1,(W.tie t0).2]) (enc:=fun k:Nat => iT (k:Int)) (fun p => bT (grB W R p)) rfl (ρ0:=[some (wT W),some (.d (sD b R)),none,none]) (ρ:=[some (wT W),some (.d (sD b R)),none,none]) (w:=Src.it ⟨none,false,[(W.tie t0).1,(W.tie t0).2].map fun k:Nat => iT (k:Int)⟩) (by
     have w1:kIxA (wT W) (iT 1) = some (.d (.tuple (W.ties.map tieD))):=by simp [Web.d]
     simp [-kIxA_ev,w1,ix0,ixw]; rfl) (rds_st false _ fun _ => True) rfl (by simp) trivial fun p hp => by
    obtain ⟨y,e⟩:=g1 p
    have b0:∀ m:Bool,backL m [.nm 0,.nm 1,.nm 2] [false,false,false] [some (wT W),some (.d (sD b R)),y] [some (wT W),some (.d (sD b R)),some (iT (p:Int)),none] = [some (wT W),some (.d (sD b R)),some (iT (p:Int)),none]:=fun m => by cases m <;> rfl
    exact ⟨[some (wT W),some (.d (sD b R)),some (iT (p:Int)),none],by simp,by simp,by simp [e,b0]⟩
   have an:kAny (.lst ([(W.tie t0).1,(W.tie t0).2].map fun p => bT (grB W R p))) = some (bT (grB W R (W.tie t0).1||grB W R (W.tie t0).2)):=by
    simp [kAny,asBools]
   have s3:g_is_ring_3 [some (wT W),some (.d (sD b R)),none,none] = .rt (bT (grB W R (W.tie t0).1||grB W R (W.tie t0).2)) [some (wT W),some (.d (sD b R)),none,none]:=by
    generalize ([(W.tie t0).1,(W.tie t0).2].map fun p => bT (grB W R p)) = BL at c3 an
    simp [g_is_ring_3,c3,an]
   refine ⟨(grB W R (W.tie t0).1||grB W R (W.tie t0).2),⟨fun h => ?_,?_⟩,?_⟩
   ·exact ⟨R,rfl,lo,l.1,l.2,by rw [h0]; exact h⟩
   ·rintro ⟨R',h,_,_,_,h2⟩
    have:R = R':=List.map_inj_right (fun x y e => by
     have:=PyData.int.inj e
     omega) |>.mp h
    rw [← this,h0] at h2
    exact h2
   ·refine fn_to ?_
    show (g_is_ring [some (wT W),some (.d (sD b R)),none,none]).sat _ _ _ _
    rw [g_is_ring,sat_seq,s1,sat_nx,sat_seq,s2,sat_nx,s3]
    simp
 ·refine ⟨false,⟨nofun,?_⟩,?_⟩
  ·rintro ⟨R,rfl,_,a,c,_⟩
   simp only [List.length_map] at l
   exact absurd ⟨a,c⟩ l
  ·generalize hn':xs.length = m at k2 l
   have c:(m:Int) < 3∨(m:Int) % 2 = 0:=by omega
   generalize sQ b xs = X at k1 k2
   by_cases c1:(m:Int) < 3
   ·simp [fn_is_ring,fnOf_ev,g_is_ring,g_is_ring_1,g_is_ring_1_t_1,k1,k2,c1]
   ·have c2:(m:Int) % 2 = 0:=by omega
    simp [fn_is_ring,fnOf_ev,g_is_ring,g_is_ring_1,g_is_ring_1_t_1,k1,k2,c1,c2]
end
def grL (W:Web) (R:List Nat) (p:Nat):Bool:=match grF W R p [] with
 | none => false
 | some (q,_) => decide (q = p)
section
variable {W:Web}
abbrev LR (W:Web) (b:Bool) (R:List Nat) (p:Nat) (met:List Nat) (q:Nat) (y5 y6 y7:Option T):Rho:=[some (wT W),some (.d (sD b R)),some (iT (p:Int)),some (nL met),some (iT (q:Int)),y5,y6,y7]
theorem law_goes_round (b:Bool) {R:List Nat} {p:Nat} (lo:∀ t,t∈R→t < W.ties.length) (hl:R.length < 1000) :
  fn_law_goes_round [wT W,.d (sD b R),iT (p:Int)] = .ret (bT (grL W R p)) [some (wT W),some (.d (sD b R)),some (iT (p:Int))]:=by
 refine fn_to ?_
 show (g_law_goes_round [some (wT W),some (.d (sD b R)),some (iT (p:Int)),none,none,none,none,none]).sat _ _ _ _
 have s1:g_law_goes_round_1 [some (wT W),some (.d (sD b R)),some (iT (p:Int)),none,none,none,none,none] = .nx [some (wT W),some (.d (sD b R)),some (iT (p:Int)),some (nL []),none,none,none,none]:=by
  simp [g_law_goes_round_1,nL,sizeLine_eq]
 have s2:g_law_goes_round_2 [some (wT W),some (.d (sD b R)),some (iT (p:Int)),some (nL []),none,none,none,none] = .nx (LR W b R p [] p none none none):=by
  simp [g_law_goes_round_2]
 rw [g_law_goes_round,sat_seq,s1,sat_nx,sat_seq,s2,sat_nx,sat_seq]
 have src:=sD_src b R 1
 refine sat_list (l:=R) (enc:=fun k:Nat => iT (k:Int)) rfl (ρ:=LR W b R p [] p none none none) (w:=Src.it ⟨some 1,b,R.map fun k:Nat => iT (k:Int)⟩) (by simp [src]) (sD_rds b R 1) rfl
  (fun pre post ρ => ∃ q met y5 y6 y7,grF W pre p [] = some (q,met)∧ρ = LR W b R p met q y5 y6 y7) (fun pre post ρ z => by
   obtain ⟨q,met,y5,y6,y7,_,rfl⟩:=z
   exact ⟨.d (sD b R),rfl,sD_seq b R⟩) ⟨p,[],none,none,none,rfl,rfl⟩ (fun pre t post ρ e z => ?_) fun ρ z => ?_
 ·obtain ⟨q,met,y5,y6,y7,hg,rfl⟩:=z
  have lt:=lo t (by rw [e]; simp)
  have at1:=atI_ties W lt
  have k1:=kIn_pair true q (W.tie t).1 (W.tie t).2
  have k2:=kIn_n5 false q met
  have ml:=grF_len hg
  have pl:pre.length < R.length:=by
   have:=congrArg List.length e
   simp at this
   omega
  have z:met.length < 16777216:=by simp at ml; omega
  rw [turn_setS (by simp)]
  simp only [List.set_cons_succ,List.set_cons_zero]
  have nx:=grF_app W pre [t] p []
  rw [hg,Option.bind_some] at nx
  simp only [grF] at nx
  have s31:g_law_goes_round_3_1 (LR W b R p met q (iT (t:Int)) y6 y7) = .nx (LR W b R p met q (iT (t:Int)) (iT ((W.tie t).1:Int)) (iT ((W.tie t).2:Int))):=by
   simp only [tieD] at at1
   simp [g_law_goes_round_3_1,at1,tieD]
  have ab:(q == (W.tie t).1||q == (W.tie t).2) = atB W t q:=by
   rw [Bool.eq_iff_iff]
   simp only [atB,Bool.or_eq_true,beq_iff_eq]
   omega
  rw [ab] at k1
  by_cases c:atB W t q = false∨q∈met
  ·rw [if_pos c] at nx
   have s32:g_law_goes_round_3_2 (LR W b R p met q (iT (t:Int)) (iT ((W.tie t).1:Int)) (iT ((W.tie t).2:Int))) = .rt (bT false) (LR W b R p met q (iT (t:Int)) (iT ((W.tie t).1:Int)) (iT ((W.tie t).2:Int))):=by
    cases ca:atB W t q with
    | false =>
     rw [ca] at k1
     simp [g_law_goes_round_3_2,g_law_goes_round_3_2_t_1,k1,sizeLine_eq]
    | true =>
     rw [ca] at k1
     have c:q∈met:=by
      rcases c with c | c
      ·rw [ca] at c; cases c
      ·exact c
     simp [g_law_goes_round_3_2,g_law_goes_round_3_2_t_1,k1,k2,c,sizeLine_eq]
   rw [sat_seq,s31,sat_nx,sat_seq,s32]
   have gb:grL W R p = false:=by
    have e2:R = (pre++[t])++post:=by rw [e]; simp
    unfold grL
    rw [e2,grF_app,nx]
    rfl
   rw [gb]
   exact ⟨rfl,by simp⟩
  ·rw [if_neg c] at nx
   have c1:atB W t q = true:=by
    cases h:atB W t q with
    | true => rfl
    | false => exact absurd (.inl h) c
   have c2:¬ q∈met:=fun h => c (.inr h)
   have s32:g_law_goes_round_3_2 (LR W b R p met q (iT (t:Int)) (iT ((W.tie t).1:Int)) (iT ((W.tie t).2:Int))) = .nx (LR W b R p met q (iT (t:Int)) (iT ((W.tie t).1:Int)) (iT ((W.tie t).2:Int))):=by
    rw [c1] at k1
    simp [g_law_goes_round_3_2,k1,k2,c2,sizeLine_eq]
   have s33:g_law_goes_round_3_3 (LR W b R p met q (iT (t:Int)) (iT ((W.tie t).1:Int)) (iT ((W.tie t).2:Int))) = .nx (LR W b R p (met++[q]) q (iT (t:Int)) (iT ((W.tie t).1:Int)) (iT ((W.tie t).2:Int))):=by
    simp [g_law_goes_round_3_3,nL,sizeLine_eq,z]
   have s34:∀ m,g_law_goes_round_3_4 (LR W b R p m q (iT (t:Int)) (iT ((W.tie t).1:Int)) (iT ((W.tie t).2:Int))) = .nx (LR W b R p m (far W t q) (iT (t:Int)) (iT ((W.tie t).1:Int)) (iT ((W.tie t).2:Int))):=fun m => by
    by_cases c3:(W.tie t).1 = q
    ·have f:far W t q = (W.tie t).2:=by simp [far,c3]
     have c4:(q:Int) = ((W.tie t).1:Int):=by omega
     rw [f]
     simp [g_law_goes_round_3_4,c4]
    ·have f:far W t q = (W.tie t).1:=by simp [far,c3]
     have c4:¬ (q:Int) = ((W.tie t).1:Int):=by omega
     rw [f]
     simp [g_law_goes_round_3_4,c4]
   rw [sat_seq,s31,sat_nx,sat_seq,s32,sat_nx,sat_seq,s33,sat_nx,s34]
   exact ⟨_,_,_,_,_,nx,rfl⟩
 ·obtain ⟨q,met,y5,y6,y7,hg,rfl⟩:=z
  have gb:grL W R p = decide (q = p):=by
   unfold grL
   rw [hg]
  have s4:g_law_goes_round_4 (LR W b R p met q y5 y6 y7) = .rt (bT (decide (q = p))) (LR W b R p met q y5 y6 y7):=by
   simp [g_law_goes_round_4]
   omega
  rw [s4,gb]
  exact ⟨rfl,by simp⟩
theorem grF_hd {W:Web}:∀ {R:List Nat} {p q x:Nat} {met m:List Nat},grF W R p (x :: met) = some (q,m)→m.headD 0 = x
 | [],p,q,x,met,m,h => by
  simp [grF] at h
  simp [← h.2]
 | t :: R,p,q,x,met,m,h => by
  rw [grF] at h
  split at h
  ·cases h
  ·exact grF_hd h
theorem grL_grB (R:List Nat) (p:Nat) (ne:R≠[]):grL W R p = grB W R p:=by
 cases R with
 | nil => exact absurd rfl ne
 | cons t R =>
  unfold grL grB
  cases e:grF W (t :: R) p [] with
  | none => rfl
  | some z =>
   obtain ⟨q,m⟩:=z
   have:m.headD 0 = p:=by
    rw [grF] at e
    split at e
    ·cases e
    ·exact grF_hd e
   simp only [this]
end
theorem law_whole (x:D) (h:ndD x = true):fn_law_whole [.d x] = .ret (bT (isInt x)) [some (.d x)]:=by
 cases x with
 | dict l => cases h
 | _ => simp [fn_law_whole,fnOf_ev,g_law_whole,g_law_whole_1,kIsi,tyOf,subTy,isInt]
theorem all_ints:∀ {xs:List D},xs.all isInt = true→∃ R:List Int,xs = R.map PyData.int
 | [],_ => ⟨[],rfl⟩
 | x :: xs,h => by
  simp only [List.all_cons,Bool.and_eq_true] at h
  obtain ⟨R,rfl⟩:=all_ints h.2
  have h1:=h.1
  cases x with
  | int i => exact ⟨i :: R,rfl⟩
  | _ => cases h1
section
variable {W:Web}
theorem law_is_ring_any (b:Bool) {R:List Nat} (lo:∀ t,t∈R→t < W.ties.length) (hl:R.length≤900):∃ v,(v = true↔RgOk W (R.map fun k:Nat => .int (k:Int)))∧fn_law_is_ring [wT W,.d (sD b R)] = .ret (bT v) [some (wT W),some (.d (sD b R))]:=by
 have i2:=sD_len b R
 by_cases l:3≤R.length∧R.length % 2 = 1
 ·have c1:¬ (R.length:Int) < 3:=by omega
  have c2:¬ (R.length:Int) % 2 = 0:=by omega
  have s1:g_law_is_ring_1 [some (wT W),some (.d (sD b R)),none] = .nx [some (wT W),some (.d (sD b R)),none]:=by
   simp [g_law_is_ring_1,i2,c1,c2]
  cases hR:R with
  | nil => rw [hR] at l; simp at l
  | cons t0 R0 =>
  rw [← hR]
  have ne:R≠[]:=by rw [hR]; simp
  have h0:R.headD 0 = t0:=by rw [hR]; rfl
  have lt0:t0 < W.ties.length:=lo t0 (by rw [hR]; simp)
  have at0:=atI_ties W lt0
  have ix0:kIxA (.d (sD b R)) (iT 0) = some (iT (t0:Int)):=by
   rw [hR]
   cases b <;> simp [sD]
  have ixw:kIxA (.d (.tuple (W.ties.map tieD))) (iT (t0:Int)) = some (.d (tieD (W.tie t0))):=by simp [at0]
  have g1:=fun p => law_goes_round (W:=W) b (p:=p) lo (by omega)
  have c3:=lc_all (c:=c_law_is_ring_1) (l:=[(W.tie t0).1,(W.tie t0).2]) (enc:=fun k:Nat => iT (k:Int)) (fun p => bT (grB W R p)) rfl (ρ0:=[some (wT W),some (.d (sD b R)),none]) (ρ:=[some (wT W),some (.d (sD b R)),none]) (w:=Src.it ⟨none,false,[(W.tie t0).1,(W.tie t0).2].map fun k:Nat => iT (k:Int)⟩) (by
    have w1:kIxA (wT W) (iT 1) = some (.d (.tuple (W.ties.map tieD))):=by simp [Web.d]
    simp [-kIxA_ev,w1,ix0,ixw]; rfl) (rds_st false _ fun _ => True) rfl (by simp) trivial fun p hp => by
   have e:=g1 p
   rw [grL_grB R p ne] at e
   exact ⟨[some (wT W),some (.d (sD b R)),some (iT (p:Int))],by simp,by simp,by simp [e]⟩
  have an:kAny (.lst ([(W.tie t0).1,(W.tie t0).2].map fun p => bT (grB W R p))) = some (bT (grB W R (W.tie t0).1||grB W R (W.tie t0).2)):=by
   simp [kAny,asBools]
  have s3:g_law_is_ring_2 [some (wT W),some (.d (sD b R)),none] = .rt (bT (grB W R (W.tie t0).1||grB W R (W.tie t0).2)) [some (wT W),some (.d (sD b R)),none]:=by
   generalize ([(W.tie t0).1,(W.tie t0).2].map fun p => bT (grB W R p)) = BL at c3 an
   simp [g_law_is_ring_2,c3,an]
  refine ⟨(grB W R (W.tie t0).1||grB W R (W.tie t0).2),⟨fun h => ?_,?_⟩,?_⟩
  ·exact ⟨R,rfl,lo,l.1,l.2,by rw [h0]; exact h⟩
  ·rintro ⟨R',h,_,_,_,h2⟩
   have:R = R':=List.map_inj_right (fun x y e => by
    have:=PyData.int.inj e
    omega) |>.mp h
   rw [← this,h0] at h2
   exact h2
  ·refine fn_to ?_
   show (g_law_is_ring [some (wT W),some (.d (sD b R)),none]).sat _ _ _ _
   rw [g_law_is_ring,sat_seq,s1,sat_nx,s3]
   simp
 ·refine ⟨false,⟨nofun,?_⟩,?_⟩
  ·rintro ⟨R',h,_,a,c,_⟩
   have:=congrArg List.length h
   simp only [List.length_map] at this
   exact absurd ⟨by omega,by omega⟩ l
  ·generalize hn':R.length = m at i2 l
   generalize sD b R = X at i2
   by_cases c1:(m:Int) < 3
   ·simp [fn_law_is_ring,fnOf_ev,g_law_is_ring,g_law_is_ring_1,g_law_is_ring_1_t_1,i2,c1]
   ·have c2:(m:Int) % 2 = 0:=by omega
    simp [fn_law_is_ring,fnOf_ev,g_law_is_ring,g_law_is_ring_1,g_law_is_ring_1_t_1,i2,c1,c2]
abbrev LDu (W:Web) (X:D):Rho:=[some (wT W),some (.d X),none,none]
theorem due_2_no {w:Str} {x:D} (h:ndD x = true) (h2:∀ b xs,x≠sQ b xs):g_law_due_2 (LDu W (.tuple [.str w,x])) = .rt (bT false) (LDu W (.tuple [.str w,x])):=by
 have k:=not_seq h h2
 have p1:kIxA (.d (.tuple [.str w,x])) (iT 1) = some (.d x):=rfl
 generalize PyData.tuple [.str w,x] = X at p1 ⊢
 simp [g_law_due_2,g_law_due_2_t_1,p1,k,-kIxA_ev]
theorem due_2 {w:Str} {b:Bool} {xs:List D} (nd:∀ x,x∈xs→ndD x = true) (hl:xs.length≤900):g_law_due_2 (LDu W (.tuple [.str w,sQ b xs])) = if xs.all isInt = true then .nx (LDu W (.tuple [.str w,sQ b xs])) else .rt (bT false) (LDu W (.tuple [.str w,sQ b xs])):=by
 have k1:=sQ_isi b xs
 have p1:kIxA (.d (.tuple [.str w,sQ b xs])) (iT 1) = some (.d (sQ b xs)):=rfl
 have c:=lc_all (c:=c_law_due_1) (l:=xs) (enc:=T.d) (fun x => bT (isInt x)) rfl (ρ0:=LDu W (.tuple [.str w,sQ b xs])) (ρ:=LDu W (.tuple [.str w,sQ b xs])) (w:=Src.it ⟨none,b,xs.map T.d⟩) (by cases b <;> simp [sQ]) (rds_st b _ fun _ => True) rfl (by omega) trivial fun x hx => by
  have n:=law_whole x (nd x hx)
  exact ⟨[some (wT W),some (.d (.tuple [.str w,sQ b xs])),some (.d x),none],by simp,by simp,by simp [n]⟩
 have am:=all_map isInt xs
 generalize (T.lst (xs.map fun x => bT (isInt x))) = L at c am
 generalize PyData.tuple [.str w,sQ b xs] = X at p1 c ⊢
 cases e:xs.all isInt with
 | false =>
  rw [e] at am
  simp [g_law_due_2,g_law_due_2_t_1,p1,k1,c,am,-kIxA_ev]
 | true =>
  rw [e] at am
  simp [g_law_due_2,g_law_due_2_t_1,p1,k1,c,am,-kIxA_ev]
theorem due_1 (w:Str) (x:D):g_law_due_1 (LDu W (.tuple [.str w,x])) = .nx (LDu W (.tuple [.str w,x])):=by
 simp [g_law_due_1,kIsi,tyOf,subTy]
theorem sd_ints {xs:List D} (h:SdOk W xs):xs.all isInt = true:=by
 obtain ⟨c,_,rfl⟩:=h
 rw [List.all_eq_true]
 intro x hx
 obtain ⟨k,_,rfl⟩:=List.mem_map.mp hx
 rfl
theorem rg_ints {xs:List D} (h:RgOk W xs):xs.all isInt = true:=by
 obtain ⟨R,rfl,_⟩:=h
 rw [List.all_eq_true]
 intro x hx
 obtain ⟨k,_,rfl⟩:=List.mem_map.mp hx
 rfl
theorem due_sides (hW:W.Ok) (hm:W.many < 400) (hn:W.ties.length < 1000) {b:Bool} {xs:List D} (nd:∀ x,x∈xs→ndD x = true) (hl:xs.length≤900):∃ v,(v = true↔SdOk W xs)∧fn_law_due [wT W,.d (.tuple [.str "sides",sQ b xs])] = .ret (bT v) [some (wT W),some (.d (.tuple [.str "sides",sQ b xs]))]:=by
 have d1:=due_1 (W:=W) "sides" (sQ b xs)
 have d2:=due_2 (W:=W) (w:="sides") (b:=b) nd hl
 cases e:xs.all isInt with
 | false =>
  rw [e,if_neg (by simp)] at d2
  refine ⟨false,⟨nofun,fun h => ?_⟩,?_⟩
  ·rw [sd_ints h] at e
   cases e
  ·refine fn_to ?_
   show (g_law_due (LDu W (.tuple [.str "sides",sQ b xs]))).sat _ _ _ _
   rw [g_law_due,sat_seq,d1,sat_nx,sat_seq,d2]
   simp
 | true =>
  rw [e,if_pos rfl] at d2
  obtain ⟨R,rfl⟩:=all_ints e
  have k3:=sQ_list b (R.map PyData.int)
  have ls:=law_sides hW hm hn
  have p1:kIxA (.d (.tuple [.str "sides",sQ b (R.map PyData.int)])) (iT 1) = some (.d (sQ b (R.map PyData.int))):=rfl
  have p0:kIxA (.d (.tuple [.str "sides",sQ b (R.map PyData.int)])) (iT 0) = some (.d (.str "sides")):=rfl
  have dl:datOf (.lst ((R.map PyData.int).map T.d)) = some (.list (R.map PyData.int)):=by simp [Function.comp_def]
  have fin:∀ v,kEqv false (.lst ((R.map PyData.int).map T.d)) (sidesT W) = some (bT v)→fn_law_due [wT W,.d (.tuple [.str "sides",sQ b (R.map PyData.int)])] = .ret (bT v) [some (wT W),some (.d (.tuple [.str "sides",sQ b (R.map PyData.int)]))]:=fun v ke => by
   refine fn_to ?_
   show (g_law_due (LDu W (.tuple [.str "sides",sQ b (R.map PyData.int)]))).sat _ _ _ _
   rw [g_law_due,sat_seq,d1,sat_nx,sat_seq,d2,sat_nx]
   generalize ((R.map PyData.int).map T.d) = rs at k3 ke
   generalize PyData.tuple [.str "sides",sQ b (R.map PyData.int)] = X at p0 p1 ⊢
   have b0:∀ m:Bool,backL m [.nm 0] [false] [some (wT W)] [some (wT W),some (.d X),none,none] = [some (wT W),some (.d X),none,none]:=fun m => by cases m <;> rfl
   have s3:g_law_due_3 [some (wT W),some (.d X),none,none] = .rt (bT v) [some (wT W),some (.d X),none,none]:=by
    simp [g_law_due_3,g_law_due_3_t_1,p0,p1,ke_si,k3,ls,ke,b0,-kIxA_ev]
   rw [sat_seq,s3]
   simp
  rcases both_ways2 hW hm hn with ⟨c,s,_,ds,_⟩ | ⟨_,ds,R',o,_⟩
  ·refine ⟨decide (R = ((List.range W.many).map c).map fun k:Nat => (k:Int)),⟨fun h => ⟨c,s,?_⟩,?_⟩,fin _ ?_⟩
   ·rw [of_decide_eq_true h,cast_map]
   ·rintro ⟨c',s',h⟩
    rw [cast_map] at h
    have h:=List.map_inj_right (fun x y e => PyData.int.inj e) |>.mp h
    rw [decide_eq_true_eq,h]
    congr 1
    exact List.map_congr_left fun x hx => Sided.one hW s' s (List.mem_range.mp hx)
   ·refine ke_ints _ _ dl ?_
    rw [ds,← cast_map]
    rfl
  ·refine ⟨false,⟨nofun,?_⟩,fin _ ?_⟩
   ·rintro ⟨c,s,h⟩
    exact (Odd.none hW o s.two s.far').elim
   ·rw [kEqv_at (n:=1) (y:=.none) dl ds (.list (.map fun a _ => .int 0 _)) (.none _)]
    simp [PyData.eqv]
theorem due_ring {b:Bool} {xs:List D} (nd:∀ x,x∈xs→ndD x = true) (hl:xs.length≤900):∃ v,(v = true↔RgOk W xs)∧fn_law_due [wT W,.d (.tuple [.str "ring",sQ b xs])] = .ret (bT v) [some (wT W),some (.d (.tuple [.str "ring",sQ b xs]))]:=by
 have d1:=due_1 (W:=W) "ring" (sQ b xs)
 have d2:=due_2 (W:=W) (w:="ring") (b:=b) nd hl
 cases e:xs.all isInt with
 | false =>
  rw [e,if_neg (by simp)] at d2
  refine ⟨false,⟨nofun,fun h => ?_⟩,?_⟩
  ·rw [rg_ints h] at e
   cases e
  ·refine fn_to ?_
   show (g_law_due (LDu W (.tuple [.str "ring",sQ b xs]))).sat _ _ _ _
   rw [g_law_due,sat_seq,d1,sat_nx,sat_seq,d2]
   simp
 | true =>
  rw [e,if_pos rfl] at d2
  obtain ⟨R,rfl⟩:=all_ints e
  have p1:kIxA (.d (.tuple [.str "ring",sQ b (R.map PyData.int)])) (iT 1) = some (.d (sQ b (R.map PyData.int))):=rfl
  have p0:kIxA (.d (.tuple [.str "ring",sQ b (R.map PyData.int)])) (iT 0) = some (.d (.str "ring")):=rfl
  have kr:kEqv true (.d (.str "ring")) (.d (.str "ring")) = some (bT false):=by
   rw [kEqv_str true cl_ri cl_ri]
   rfl
  have d3:g_law_due_3 (LDu W (.tuple [.str "ring",sQ b (R.map PyData.int)])) = .nx (LDu W (.tuple [.str "ring",sQ b (R.map PyData.int)])):=by
   generalize PyData.tuple [.str "ring",sQ b (R.map PyData.int)] = X at p0 p1 ⊢
   simp [g_law_due_3,p0,ke_rs,-kIxA_ev]
  have c:=lc_all (c:=c_law_due_2) (l:=R) (enc:=fun i => T.d (PyData.int i)) (fun i => bT (inB W.ties.length (.int i))) rfl (ρ0:=LDu W (.tuple [.str "ring",sQ b (R.map PyData.int)])) (ρ:=LDu W (.tuple [.str "ring",sQ b (R.map PyData.int)])) (w:=Src.it ⟨none,b,R.map fun i => T.d (PyData.int i)⟩) (by cases b <;> simp [sQ,Function.comp_def]) (rds_st b _ fun _ => True) rfl (by simpa using (by simp at hl; omega:R.length < 16000000)) trivial fun i hi => by
   refine ⟨[some (wT W),some (.d (.tuple [.str "ring",sQ b (R.map PyData.int)])),none,some (iT i)],by simp,by simp,?_⟩
   by_cases c1:0≤i <;> by_cases c2:i < (W.ties.length:Int) <;> simp [inB,c1,c2]
  have am:=all_map (fun i:Int => inB W.ties.length (.int i)) R
  have ae:R.all (fun i:Int => inB W.ties.length (.int i)) = (R.map PyData.int).all (inB W.ties.length):=by rw [List.all_map]; rfl
  rw [ae] at am
  generalize (T.lst (R.map fun i => bT (inB W.ties.length (.int i)))) = L at c am
  cases e2:(R.map PyData.int).all (inB W.ties.length) with
  | false =>
   rw [e2] at am
   refine ⟨false,⟨nofun,?_⟩,?_⟩
   ·rintro ⟨R',h,lo,_⟩
    rw [h,nats_all lo] at e2
    cases e2
   ·refine fn_to ?_
    show (g_law_due (LDu W (.tuple [.str "ring",sQ b (R.map PyData.int)]))).sat _ _ _ _
    have s4:g_law_due_4 (LDu W (.tuple [.str "ring",sQ b (R.map PyData.int)])) = .rt (bT false) (LDu W (.tuple [.str "ring",sQ b (R.map PyData.int)])):=by
     generalize PyData.tuple [.str "ring",sQ b (R.map PyData.int)] = X at p0 p1 c ⊢
     simp [g_law_due_4,g_law_due_4_t_1,p0,kr,c,am,-kIxA_ev]
    rw [g_law_due,sat_seq,d1,sat_nx,sat_seq,d2,sat_nx,sat_seq,d3,sat_nx,sat_seq,s4]
    simp
  | true =>
   rw [e2] at am
   obtain ⟨N,hN,lo⟩:=all_nats e2
   rw [hN] at d1 d2 d3 c p0 p1 hl ⊢
   obtain ⟨v,hv,ev⟩:=law_is_ring_any b lo (by simpa using hl)
   refine ⟨v,hv,?_⟩
   refine fn_to ?_
   show (g_law_due (LDu W (.tuple [.str "ring",sQ b _]))).sat _ _ _ _
   rw [sQ_nat] at p1 d1 d2 d3 c ⊢
   have s4:g_law_due_4 (LDu W (.tuple [.str "ring",sD b N])) = .nx (LDu W (.tuple [.str "ring",sD b N])):=by
    rw [sQ_nat] at p0
    generalize PyData.tuple [.str "ring",sD b N] = X at p0 p1 c ⊢
    simp [g_law_due_4,g_law_due_4_t_1,p0,kr,c,am,-kIxA_ev]
   have s5:g_law_due_5 (LDu W (.tuple [.str "ring",sD b N])) = .rt (bT v) (LDu W (.tuple [.str "ring",sD b N])):=by
    generalize PyData.tuple [.str "ring",sD b N] = X at p1 ⊢
    simp [g_law_due_5,p1,ev,-kIxA_ev]
   rw [g_law_due,sat_seq,d1,sat_nx,sat_seq,d2,sat_nx,sat_seq,d3,sat_nx,sat_seq,s4,sat_nx,s5]
   simp
end
theorem seq_or (x:D):(∃ b xs,x = sQ b xs)∨∀ b xs,x≠sQ b xs:=by
 cases x with
 | list xs => exact .inl ⟨true,xs,rfl⟩
 | tuple xs => exact .inl ⟨false,xs,rfl⟩
 | _ =>
  refine .inr fun b xs => ?_
  cases b <;> nofun
theorem AnyD.parts {n:Nat} {b:Bool} {xs:List D} (h:AnyD n (sQ b xs)):(∀ y,y∈xs→ndD y = true)∧xs.length≤40:=by
 cases b with
 | true =>
  cases h with
  | leaf _ h => cases h
  | lst h hl => exact ⟨fun y hy => (h y hy).nd,hl⟩
 | false =>
  cases h with
  | leaf _ h => cases h
  | tup h hl => exact ⟨fun y hy => (h y hy).nd,hl⟩
section
variable {W:Web}
abbrev SHb (W:Web) (X:D):Rho:=[some (wT W),some (.d X)]
theorem both_flat {x:D} (nd:ndD x = true) (h:∀ w y,x≠.tuple [.str w,y]) (ha:∀ a b,x = .tuple [a,b]→ndD a = true):fn_shows_sides [wT W,.d x] = .ret (bT false) [some (wT W),some (.d x)]∧fn_law_due [wT W,.d x] = .ret (bT false) [some (wT W),some (.d x)]:=by
 cases x with
 | dict l => cases nd
 | tuple xs =>
  have k1:kIsi .tuple (.d (.tuple xs)) = some (bT true):=rfl
  by_cases l2:xs.length = 2
  ·obtain ⟨a,b,rfl⟩:∃ a b,xs = [a,b]:=by
    match xs,l2 with
    | [a,b],_ => exact ⟨a,b,rfl⟩
   have p0:kIxA (.d (.tuple [a,b])) (iT 0) = some (.d a):=rfl
   have pl:kLenA (.d (.tuple [a,b])) = some (iT 2):=rfl
   have ks:kIsi .str (.d a) = some (bT false):=by
    have na:=ha a b rfl
    cases a with
    | str w => exact absurd rfl (h w b)
    | dict l => cases na
    | _ => rfl
   generalize PyData.tuple [a,b] = X at k1 p0 pl ⊢
   exact ⟨by simp [fn_shows_sides,fnOf_ev,g_shows_sides,g_shows_sides_1,g_shows_sides_1_t_1,k1,p0,pl,ks,-kIxA_ev],by simp [fn_law_due,fnOf_ev,g_law_due,g_law_due_1,g_law_due_1_t_1,k1,p0,pl,ks,-kIxA_ev]⟩
  ·have pl:kLenA (.d (.tuple xs)) = some (iT (xs.length:Int)):=by simp
   have c:¬ (xs.length:Int) = 2:=by omega
   generalize (xs.length:Int) = m at pl c
   generalize PyData.tuple xs = X at k1 pl ⊢
   exact ⟨by simp [fn_shows_sides,fnOf_ev,g_shows_sides,g_shows_sides_1,g_shows_sides_1_t_1,k1,pl,c],by simp [fn_law_due,fnOf_ev,g_law_due,g_law_due_1,g_law_due_1_t_1,k1,pl,c]⟩
 | _ => exact ⟨by simp [fn_shows_sides,fnOf_ev,g_shows_sides,g_shows_sides_1,g_shows_sides_1_t_1,kIsi,tyOf,subTy],by simp [fn_law_due,fnOf_ev,g_law_due,g_law_due_1,g_law_due_1_t_1,kIsi,tyOf,subTy]⟩
theorem shows_1 (w:Str) (y:D):g_shows_sides_1 (SHb W (.tuple [.str w,y])) = .nx (SHb W (.tuple [.str w,y])):=by
 simp [g_shows_sides_1,kIsi,tyOf,subTy]
theorem shows_by {w:Str} {y:D} {v:Bool} (hw:(PyData.str w).canLay0 = true) (h1:w = "sides"→fn_are_sides [wT W,.d y] = .ret (bT v) [some (wT W),some (.d y)]) (h2:w = "ring"→fn_is_ring [wT W,.d y] = .ret (bT v) [some (wT W),some (.d y)]) (h3:w≠"sides"→w≠"ring"→v = false):fn_shows_sides [wT W,.d (.tuple [.str w,y])] = .ret (bT v) [some (wT W),some (.d (.tuple [.str w,y]))]:=by
 have s1:=shows_1 (W:=W) w y
 have k1:kEqv false (.d (.str w)) (.d (.str "sides")) = some (bT (decide (w = "sides"))):=by
  rw [kEqv_str false hw cl_si]
  rfl
 have k2:kEqv false (.d (.str w)) (.d (.str "ring")) = some (bT (decide (w = "ring"))):=by
  rw [kEqv_str false hw cl_ri]
  rfl
 have p0:kIxA (.d (.tuple [.str w,y])) (iT 0) = some (.d (.str w)):=rfl
 have p1:kIxA (.d (.tuple [.str w,y])) (iT 1) = some (.d y):=rfl
 refine fn_to ?_
 show (g_shows_sides (SHb W (.tuple [.str w,y]))).sat _ _ _ _
 rw [g_shows_sides,sat_seq,s1,sat_nx,sat_seq]
 generalize PyData.tuple [.str w,y] = X at p0 p1 ⊢
 by_cases c1:w = "sides"
 ·have e:=h1 c1
  subst c1
  have s2:g_shows_sides_2 (SHb W X) = .rt (bT v) (SHb W X):=by
   simp [g_shows_sides_2,g_shows_sides_2_t_1,p0,p1,ke_si,e,-kIxA_ev]
  rw [s2]
  simp
 ·have s2:g_shows_sides_2 (SHb W X) = .nx (SHb W X):=by
   simp [g_shows_sides_2,p0,k1,c1,-kIxA_ev]
  by_cases c2:w = "ring"
  ·have e:=h2 c2
   subst c2
   have s3:g_shows_sides_3 (SHb W X) = .rt (bT v) (SHb W X):=by
    simp [g_shows_sides_3,p0,p1,ke_ri,e,-kIxA_ev]
   rw [s2,sat_nx,s3]
   simp
  ·have s3:g_shows_sides_3 (SHb W X) = .rt (bT v) (SHb W X):=by
    rw [h3 c1 c2]
    simp [g_shows_sides_3,p0,k2,c2,-kIxA_ev]
   rw [s2,sat_nx,s3]
   simp
theorem due_oth {w:Str} {y:D} (hw:(PyData.str w).canLay0 = true) (nd:ndD y = true) (hy:∀ b xs,y = sQ b xs→(∀ z,z∈xs→ndD z = true)∧xs.length≤40) (h:(∀ b xs,y≠sQ b xs)∨(w≠"sides"∧w≠"ring")):fn_law_due [wT W,.d (.tuple [.str w,y])] = .ret (bT false) [some (wT W),some (.d (.tuple [.str w,y]))]:=by
 have d1:=due_1 (W:=W) w y
 refine fn_to ?_
 show (g_law_due (LDu W (.tuple [.str w,y]))).sat _ _ _ _
 rw [g_law_due,sat_seq,d1,sat_nx,sat_seq]
 rcases seq_or y with ⟨b,xs,rfl⟩ | c
 ·obtain ⟨c1,c2⟩:w≠"sides"∧w≠"ring":=by
   rcases h with h | h
   ·exact absurd rfl (h b xs)
   ·exact h
  obtain ⟨n,l⟩:=hy b xs rfl
  have d2:=due_2 (W:=W) (w:=w) (b:=b) n (by omega)
  cases e:xs.all isInt with
  | false =>
   rw [e,if_neg (by simp)] at d2
   rw [d2]
   simp
  | true =>
   rw [e,if_pos rfl] at d2
   have k1:kEqv false (.d (.str w)) (.d (.str "sides")) = some (bT false):=by
    rw [kEqv_str false hw cl_si]
    simp [c1]
   have k2:kEqv true (.d (.str w)) (.d (.str "ring")) = some (bT true):=by
    rw [kEqv_str true hw cl_ri]
    simp [c2]
   have p0:kIxA (.d (.tuple [.str w,sQ b xs])) (iT 0) = some (.d (.str w)):=rfl
   rw [d2,sat_nx]
   generalize PyData.tuple [.str w,sQ b xs] = X at p0 ⊢
   have d3:g_law_due_3 (LDu W X) = .nx (LDu W X):=by
    simp [g_law_due_3,p0,k1,-kIxA_ev]
   have d4:g_law_due_4 (LDu W X) = .rt (bT false) (LDu W X):=by
    simp [g_law_due_4,g_law_due_4_t_1,p0,k2,-kIxA_ev]
   rw [sat_seq,d3,sat_nx,sat_seq,d4]
   simp
 ·rw [due_2_no nd c]
  simp
theorem sides_any (hW:W.Ok) (hm:W.many < 400) (hn:W.ties.length < 900) {n:Nat} {x:D} (hx:AnyD n x):∃ v,fn_shows_sides [wT W,.d x] = .ret (bT v) [some (wT W),some (.d x)]∧fn_law_due [wT W,.d x] = .ret (bT v) [some (wT W),some (.d x)]:=by
 by_cases c:∃ w y,x = .tuple [.str w,y]
 ·obtain ⟨w,y,rfl⟩:=c
  obtain ⟨hs,hy⟩:AnyD n (.str w)∧AnyD n y:=by
   cases hx with
   | leaf _ h => cases h
   | tup h hl => exact ⟨(h _ (by simp)).up,(h y (by simp)).up⟩
  have hw:=hs.lay
  rcases seq_or y with ⟨b,xs,rfl⟩ | c
  ·obtain ⟨nd,l⟩:=hy.parts
   by_cases c1:w = "sides"
   ·subst c1
    obtain ⟨v,hv,e1⟩:=are_sides_any (W:=W) hW hm (by omega) (b:=b) nd (by omega)
    obtain ⟨u,hu,e2⟩:=due_sides (W:=W) hW hm (by omega) (b:=b) nd (by omega)
    obtain rfl:v = u:=Bool.eq_iff_iff.mpr (hv.trans hu.symm)
    exact ⟨v,shows_by hw (fun _ => e1) (fun h => absurd h (by decide +kernel)) fun h _ => absurd rfl h,e2⟩
   ·by_cases c2:w = "ring"
    ·subst c2
     obtain ⟨v,hv,e1⟩:=is_ring_any (W:=W) (b:=b) nd (by omega)
     obtain ⟨u,hu,e2⟩:=due_ring (W:=W) (b:=b) nd (by omega)
     obtain rfl:v = u:=Bool.eq_iff_iff.mpr (hv.trans hu.symm)
     exact ⟨v,shows_by hw (fun h => absurd h c1) (fun _ => e1) fun _ h => absurd rfl h,e2⟩
    ·exact ⟨false,shows_by hw (fun h => absurd h c1) (fun h => absurd h c2) fun _ _ => rfl,due_oth hw hy.nd (fun _ _ e => by rw [e] at hy; exact hy.parts) (.inr ⟨c1,c2⟩)⟩
  ·exact ⟨false,shows_by hw (fun _ => are_flat hy.nd c) (fun _ => ring_flat hy.nd c) fun _ _ => rfl,due_oth hw hy.nd (fun b xs e => absurd e (c b xs)) (.inl c)⟩
 ·refine ⟨false,both_flat hx.nd (fun w y e => c ⟨w,y,e⟩) fun a b e => ?_⟩
  subst e
  cases hx with
  | leaf _ h => cases h
  | tup h hl => exact (h a (by simp)).nd
end
theorem drawN (t:Tape) {m:Nat} (hm:0 < m) (hm2:m < 1000000):∃ (v:Nat) (t':Tape),v < m∧fn_law_draw [tT t,iT (m:Int)] = .ret (iT (v:Int)) [some (tT t'),some (iT (m:Int))]:=by
 have d:=draw t (m:=m) (by omega) (by omega)
 have a1:=dV_nn t (m:=m) (by omega)
 have a2:=dV_lt t (m:=m) (by omega)
 exact ⟨(dV t m).toNat,dT t m,by omega,by rw [d]; congr; omega⟩
theorem ix_lB {l:List D} {v:Nat} (h:v < l.length):∃ x,x∈l∧atI l (v:Int) = some x:=⟨l[v],List.getElem_mem h,atI_nat (by simp [h])⟩
theorem cut_m {ds:List D} {lo hi:Option Int} {y:D} (h:y∈cutD ds lo hi):y∈ds:=by
 unfold cutD at h
 first
  | exact List.mem_of_mem_drop (List.mem_of_mem_take h)
  | exact List.mem_of_mem_take (List.mem_of_mem_drop h)
theorem cut_l {ds:List D} {lo hi:Option Int}:(cutD ds lo hi).length≤ds.length:=by
 unfold cutD
 simp
 omega
theorem addL {xs ys:List D} (h:xs.length + ys.length < 16000000):kAdd (.lst (xs.map T.d)) (.lst (ys.map T.d)) = some (.lst ((xs++ys).map T.d)):=by
 simp [sizeLine_eq]
 omega
theorem kIndex_m (l:List Nat) {p:Nat} (h:p∈l):kFind fIndex (nL l) (iT (p:Int)) = some (iT (l.idxOf p:Int)):=by
 have e1:listOf (nL l) = some (l.map fun k:Nat => PyData.int (k:Int)):=by simp [nL]
 have c:∀ l:List Nat,p∈l→((l.map fun k:Nat => PyData.int (k:Int)).findIdx? fun y => PyData.eqv y (.int (p:Int))) = some (l.idxOf p):=fun l => by
  induction l with
  | nil => intro h; simp at h
  | cons x r ih =>
   intro h
   have hx:PyData.eqv (.int (x:Int)) (.int (p:Int)) = decide (x = p):=eqv_nb (by simp) (by simp) (x = p) ⟨fun e => by rw [e],fun e => by have:=PyData.int.inj e; omega⟩
   rw [List.map_cons,List.findIdx?_cons,hx,List.idxOf_cons]
   by_cases z:x = p
   ·simp [z]
   ·have z':(x == p) = false:=by simpa using z
    have hr:p∈r:=by
     (rcases List.mem_cons.mp h with q | q)
     ·exact absurd q.symm z
     ·exact q
    rw [ih hr,z']
    simp [z]
 have o4:okD (.list ((p :: l).map fun k:Nat => PyData.int (k:Int))) = true:=(Ok.list (n:=0) (.map fun a _ => .int 0 _)).okD
 simp only [List.map_cons] at o4
 have d:datOf (iT (p:Int)) = some (.int (p:Int)):=rfl
 simp only [kFind,e1,d,o4,if_true]
 simp [fIndex,c l h]
theorem ke_none6 (l:List (Nat × Nat)):kEqv false (.d (.tuple (l.map tieD))) (.d (.tuple [])) = some (bT l.isEmpty):=by
 rw [kEqv_at (n:=2) (x:=.tuple (l.map tieD)) (y:=.tuple []) rfl rfl (.tuple (.map fun p _ => .tuple (.cons (.int _ _) (.cons (.int _ _) (.nil _))))) (.tuple (.nil _))]
 cases l <;> simp [PyData.eqv,PyData.eqvAll]
def NumD (n:Nat) (x:D):Prop:=∃ k:Nat,k < n∧x = .int (k:Int)
section
variable {W:Web}
abbrev RO (t:Tape) (W:Web) (h:Nat) (M Ts:List Nat) (y3 y6 y7 y8 y9:Option T):Rho:=[some (tT t),some (wT W),some (iT (h:Int)),y3,some (nL M),some (nL Ts),y6,y7,y8,y9]
theorem ring_of_1 (t:Tape) (h:Nat) (M Ts:List Nat) (hn:W.ties.length < 900) (y3 y6 y7 y8 y9:Option T):g_law_ring_of_4_1 (RO t W h M Ts y3 y6 y7 y8 y9) = .nx (RO t W h M Ts y3 (some (nL ((List.range W.ties.length).filter fun k => atB W k h&&!decide (k∈Ts)))) (keepD y7) y8 y9):=by
 have w1:kIxA (wT W) (iT 1) = some (.d (.tuple (W.ties.map tieD))):=by simp
 have kl:kLenA (.d (.tuple (W.ties.map tieD))) = some (iT (W.ties.length:Int)):=by simp
 have c:=lc_run (c:=c_law_ring_of_1) (l:=List.range W.ties.length) (enc:=fun k:Nat => iT (k:Int)) (fun k => atB W k h&&!decide (k∈Ts)) (fun k => iT (k:Int)) rfl (ρ0:=RO t W h M Ts y3 y6 y7 y8 y9) (ρ:=RO t W h M Ts y3 y6 y7 y8 y9) (w:=rng 0 W.ties.length) (by
  have b:in62 (W.ties.length:Int) = true:=in62_of (by omega) (by omega)
  simp [-kIxA_ev,w1,kl,b]) (rds_rngN W.ties.length fun _ => True) rfl (by simp; omega) trivial fun k hk => by
  have lt:k < W.ties.length:=List.mem_range.mp hk
  have at0:=atI_ties W lt
  have k1:=kIn_tie false h (W.tie k)
  have k2:=kIn_n5 true k Ts
  have ab:((W.tie k).1 == h||(W.tie k).2 == h) = atB W k h:=rfl
  rw [ab] at k1
  refine ⟨RO t W h M Ts y3 y6 (some (iT (k:Int))) y8 y9,by simp,by simp,?_,fun _ => by simp⟩
  cases ca:atB W k h with
  | false =>
   rw [ca] at k1
   simp [at0,k1]
  | true =>
   rw [ca] at k1
   simp [at0,k1,k2]
 simp [g_law_ring_of_4_1,c,nL]
theorem ring_of_2 (t:Tape) (h:Nat) (M Ts:List Nat) (hW:W.Ok) (hn:W.ties.length < 900) (hM:M.length < 100) (hT:Ts.length < 100) (lo:∀ k,k∈Ts→k < W.ties.length) (y3 y7 y8 y9:Option T):(g_law_ring_of_4_2 (RO t W h M Ts y3 (some (nL ((List.range W.ties.length).filter fun k => atB W k h&&!decide (k∈Ts)))) y7 y8 y9)).sat
  (fun ρ => ∃ t' h' M' Ts' y6 y7 y8 y9,M'.length≤M.length + 1∧Ts'.length≤Ts.length + 1∧(∀ k,k∈Ts'→k < W.ties.length)∧ρ = RO t' W h' M' Ts' y3 y6 y7 y8 y9) noC
  (fun u ρ => ∃ t' h' M' Ts' y6 y7 y8 y9,∃ xs:List D,(∀ x,x∈xs→NumD W.ties.length x)∧xs.length≤Ts.length + 1∧u = .lst (xs.map T.d)∧ρ = RO t' W h' M' Ts' y3 y6 y7 y8 y9) noX:=by
 generalize hS:((List.range W.ties.length).filter fun k => atB W k h&&!decide (k∈Ts)) = S
 have mS:∀ k,k∈S→k < W.ties.length∧atB W k h = true:=fun k hk => by
  rw [← hS] at hk
  have:=List.mem_filter.mp hk
  simp only [Bool.and_eq_true] at this
  exact ⟨List.mem_range.mp this.1,this.2.1⟩
 have lS:S.length≤W.ties.length:=by
  rw [← hS]
  have:=List.length_filter_le (fun k => atB W k h&&!decide (k∈Ts)) (List.range W.ties.length)
  simpa using this
 have ke:=ke_nil true S
 by_cases c:S = []
 ·rw [c] at ke ⊢
  have s:g_law_ring_of_4_2 (RO t W h M Ts y3 (some (nL [])) y7 y8 y9) = .nx (RO t W h M Ts y3 (some (nL [])) y7 y8 y9):=by
   rw [g_law_ring_of_4_2]
   generalize (sSeq g_law_ring_of_4_2_t_1 _) = Z
   simp [ke]
  rw [s]
  exact ⟨t,h,M,Ts,_,_,_,_,by omega,by omega,lo,rfl⟩
 ·have pos:0 < S.length:=List.length_pos_iff.mpr c
  have e0:S.isEmpty = false:=by cases S <;> simp_all
  rw [e0] at ke
  obtain ⟨v,t1,lv,dv⟩:=drawN t (m:=S.length) pos (by omega)
  have kl:kLenA (nL S) = some (iT (S.length:Int)):=by simp [nL]
  obtain ⟨k,hk,ek⟩:∃ k,k∈S∧kIxA (nL S) (iT (v:Int)) = some (iT (k:Int)):=⟨S[v],List.getElem_mem lv,by
   have:atI (S.map fun k:Nat => iT (k:Int)) (v:Int) = some (iT (S[v]:Int)):=atI_nat (by simp [lv])
   simp [nL,this]⟩
  obtain ⟨lt,ab⟩:=mS k hk
  have at0:=atI_ties W lt
  have s1:g_law_ring_of_4_2_t_1 (RO t W h M Ts y3 (some (nL S)) y7 y8 y9) = .nx (RO t1 W h M Ts y3 (some (nL S)) (some (iT (k:Int))) y8 y9):=by
   generalize nL S = SS at kl ek
   simp [g_law_ring_of_4_2_t_1,kl,dv,ek,-kIxA_ev]
  have s2:g_law_ring_of_4_2_t_2 (RO t1 W h M Ts y3 (some (nL S)) (some (iT (k:Int))) y8 y9) = .nx (RO t1 W h M Ts y3 (some (nL S)) (some (iT (k:Int))) (some (iT ((W.tie k).1:Int))) (some (iT ((W.tie k).2:Int)))):=by
   simp only [tieD] at at0
   simp [g_law_ring_of_4_2_t_2,at0,tieD]
  obtain ⟨h2,s3⟩:∃ h2:Nat,g_law_ring_of_4_2_t_3 (RO t1 W h M Ts y3 (some (nL S)) (some (iT (k:Int))) (some (iT ((W.tie k).1:Int))) (some (iT ((W.tie k).2:Int)))) = .nx (RO t1 W h2 M Ts y3 (some (nL S)) (some (iT (k:Int))) (some (iT ((W.tie k).1:Int))) (some (iT ((W.tie k).2:Int)))):=by
   by_cases c3:(h:Int) = ((W.tie k).1:Int)
   ·exact ⟨(W.tie k).2,by simp [g_law_ring_of_4_2_t_3,c3]⟩
   ·exact ⟨(W.tie k).1,by simp [g_law_ring_of_4_2_t_3,c3]⟩
  have zT:Ts.length < 16777216:=by omega
  have zM:M.length < 16777216:=by omega
  have s4:g_law_ring_of_4_2_t_4 (RO t1 W h2 M Ts y3 (some (nL S)) (some (iT (k:Int))) (some (iT ((W.tie k).1:Int))) (some (iT ((W.tie k).2:Int)))) = .nx (RO t1 W h2 M (Ts++[k]) y3 (some (nL S)) (some (iT (k:Int))) (some (iT ((W.tie k).1:Int))) (some (iT ((W.tie k).2:Int)))):=by
   simp [g_law_ring_of_4_2_t_4,nL,sizeLine_eq,zT]
  have lo':∀ j,j∈Ts++[k]→j < W.ties.length:=fun j hj => by
   rcases List.mem_append.mp hj with q | q
   ·exact lo j q
   ·rw [List.mem_singleton.mp q]; exact lt
  have ki:=kIn_n5 false h2 M
  have all:g_law_ring_of_4_2 (RO t W h M Ts y3 (some (nL S)) y7 y8 y9) = (sSeq g_law_ring_of_4_2_t_5 g_law_ring_of_4_2_t_6) (RO t1 W h2 M (Ts++[k]) y3 (some (nL S)) (some (iT (k:Int))) (some (iT ((W.tie k).1:Int))) (some (iT ((W.tie k).2:Int)))):=by
   rw [g_law_ring_of_4_2]
   have q:∀ Z:SG,(sIf (gTest (gP2 (kEqv true) (.nm 6) (.val (gLst [])))) Z sPass) (RO t W h M Ts y3 (some (nL S)) y7 y8 y9) = Z (RO t W h M Ts y3 (some (nL S)) y7 y8 y9):=fun Z => by simp [ke]
   rw [q]
   simp only [sSeq_ev,s1,s2,s3,s4]
  rw [all,sat_seq]
  by_cases c5:h2∈M
  ·have kx:=kIndex_m M c5
   have s5:g_law_ring_of_4_2_t_5 (RO t1 W h2 M (Ts++[k]) y3 (some (nL S)) (some (iT (k:Int))) (some (iT ((W.tie k).1:Int))) (some (iT ((W.tie k).2:Int)))) = .rt (.lst ((cutD ((Ts++[k]).map fun k:Nat => PyData.int (k:Int)) (some (M.idxOf h2:Int)) none).map T.d)) (RO t1 W h2 M (Ts++[k]) y3 (some (nL S)) (some (iT (k:Int))) (some (iT ((W.tie k).1:Int))) (some (iT ((W.tie k).2:Int)))):=by
    have kc:kCut (nL (Ts++[k])) (some (M.idxOf h2:Int)) none = some (.lst ((cutD ((Ts++[k]).map fun k:Nat => PyData.int (k:Int)) (some (M.idxOf h2:Int)) none).map T.d)):=by
     have:listOf (nL (Ts++[k])) = some ((Ts++[k]).map fun k:Nat => PyData.int (k:Int)):=by simp [nL,Function.comp_def]
     unfold kCut
     rw [this]
    generalize T.lst ((cutD ((Ts++[k]).map fun k:Nat => PyData.int (k:Int)) (some (M.idxOf h2:Int)) none).map T.d) = U at kc
    have il:isL (nL M) = true:=rfl
    simp [g_law_ring_of_4_2_t_5,g_law_ring_of_4_2_t_5_t_1,ki,c5,kx,kc,il,-kCut_l]
   rw [s5]
   refine ⟨_,_,_,_,_,_,_,_,_,fun x hx => ?_,?_,rfl,rfl⟩
   ·have:=cut_m hx
    obtain ⟨j,hj,rfl⟩:=List.mem_map.mp this
    exact ⟨j,lo' j hj,rfl⟩
   ·have:=cut_l (ds:=(Ts++[k]).map fun k:Nat => PyData.int (k:Int)) (lo:=some (M.idxOf h2:Int)) (hi:=none)
    simp only [List.length_map,List.length_append,List.length_cons,List.length_nil] at this
    omega
  ·have s5:g_law_ring_of_4_2_t_5 (RO t1 W h2 M (Ts++[k]) y3 (some (nL S)) (some (iT (k:Int))) (some (iT ((W.tie k).1:Int))) (some (iT ((W.tie k).2:Int)))) = .nx (RO t1 W h2 M (Ts++[k]) y3 (some (nL S)) (some (iT (k:Int))) (some (iT ((W.tie k).1:Int))) (some (iT ((W.tie k).2:Int)))):=by
    rw [g_law_ring_of_4_2_t_5]
    generalize g_law_ring_of_4_2_t_5_t_1 = Z
    simp [ki,c5]
   have s6:g_law_ring_of_4_2_t_6 (RO t1 W h2 M (Ts++[k]) y3 (some (nL S)) (some (iT (k:Int))) (some (iT ((W.tie k).1:Int))) (some (iT ((W.tie k).2:Int)))) = .nx (RO t1 W h2 (M++[h2]) (Ts++[k]) y3 (some (nL S)) (some (iT (k:Int))) (some (iT ((W.tie k).1:Int))) (some (iT ((W.tie k).2:Int)))):=by
    simp [g_law_ring_of_4_2_t_6,nL,sizeLine_eq,zM]
   rw [s5,sat_nx,s6]
   exact ⟨_,_,_,_,_,_,_,_,by simp,by simp,lo',rfl⟩
theorem law_ring_of (t:Tape) (hW:W.Ok) (hm:W.many≤30) (hn:W.ties.length < 900):∃ (t':Tape) (xs:List D),(∀ x,x∈xs→NumD W.ties.length x)∧xs.length≤W.many + 1∧fn_law_ring_of [tT t,wT W] = .ret (.lst (xs.map T.d)) [some (tT t'),some (wT W)]:=by
 have key:∃ u back,fn_law_ring_of [tT t,wT W] = .ret u back∧∃ (t':Tape) (xs:List D),(∀ x,x∈xs→NumD W.ties.length x)∧xs.length≤W.many + 1∧u = .lst (xs.map T.d)∧back = [some (tT t'),some (wT W)]:=by
  refine fn_ret ?_
  show (g_law_ring_of [some (tT t),some (wT W),none,none,none,none,none,none,none,none]).sat _ _ _ _
  have w1:kIxA (wT W) (iT 1) = some (.d (.tuple (W.ties.map tieD))):=by simp
  have w0:kIxA (wT W) (iT 0) = some (iT (W.many:Int)):=by simp
  have kn:kEqv false (.d (.tuple (W.ties.map tieD))) (.d (.tuple [])) = some (bT W.ties.isEmpty):=by
   exact ke_none6 W.ties
  rw [g_law_ring_of,sat_seq]
  by_cases c:W.ties = []
  ·have s1:g_law_ring_of_1 [some (tT t),some (wT W),none,none,none,none,none,none,none,none] = .rt (.lst []) [some (tT t),some (wT W),none,none,none,none,none,none,none,none]:=by
    rw [c] at kn w1
    simp only [List.map_nil,List.isEmpty_nil] at kn w1
    simp [g_law_ring_of_1,g_law_ring_of_1_t_1,w1,kn,-kIxA_ev,sizeLine_eq]
   rw [s1]
   exact ⟨t,[],by simp,by simp,rfl,rfl⟩
  ·have pos:0 < W.ties.length:=List.length_pos_iff.mpr c
   have e0:W.ties.isEmpty = false:=by cases h:W.ties <;> simp_all
   rw [e0] at kn
   have s1:g_law_ring_of_1 [some (tT t),some (wT W),none,none,none,none,none,none,none,none] = .nx [some (tT t),some (wT W),none,none,none,none,none,none,none,none]:=by
    simp [g_law_ring_of_1,w1,kn,-kIxA_ev]
   obtain ⟨v,t1,lv,dv⟩:=drawN t (m:=W.ties.length) pos (by omega)
   obtain ⟨b,t2,lb,db⟩:=drawN t1 (m:=2) (by omega) (by omega)
   have db:fn_law_draw [tT t1,iT 2] = .ret (iT (b:Int)) [some (tT t2),some (iT 2)]:=db
   have kl:kLenA (.d (.tuple (W.ties.map tieD))) = some (iT (W.ties.length:Int)):=by simp
   have at0:=atI_ties W lv
   have x0:kIxA (.d (.tuple (W.ties.map tieD))) (iT (v:Int)) = some (.d (tieD (W.tie v))):=by simp [at0]
   obtain ⟨h,xh⟩:∃ h:Nat,kIxA (.d (tieD (W.tie v))) (iT (b:Int)) = some (iT (h:Int)):=by
    rcases (by omega:b = 0∨b = 1) with rfl | rfl
    ·exact ⟨(W.tie v).1,by simp [tieD]⟩
    ·exact ⟨(W.tie v).2,by simp [tieD]⟩
   have s2:g_law_ring_of_2 [some (tT t),some (wT W),none,none,none,none,none,none,none,none] = .nx [some (tT t2),some (wT W),some (iT (h:Int)),none,none,none,none,none,none,none]:=by
    generalize PyData.tuple (W.ties.map tieD) = TT at w1 kl x0
    generalize tieD (W.tie v) = TV at x0 xh
    simp [g_law_ring_of_2,w1,kl,x0,xh,dv,db,-kIxA_ev]
   have s3:g_law_ring_of_3 [some (tT t2),some (wT W),some (iT (h:Int)),none,none,none,none,none,none,none] = .nx (RO t2 W h [h] [] none none none none none):=by
    simp [g_law_ring_of_3,nL,sizeLine_eq]
   rw [s1,sat_nx,sat_seq,s2,sat_nx,sat_seq,s3,sat_nx,sat_seq]
   refine sat_rng (n:=W.many) rfl (ρ:=RO t2 W h [h] [] none none none none none) (by
     have b:in62 (W.many:Int) = true:=in62_of (by omega) (by omega)
     simp [-kIxA_ev,w0,b])
    (fun k ρ => ∃ t' h' M Ts y3 y6 y7 y8 y9,M.length≤k + 1∧Ts.length≤k∧(∀ j,j∈Ts→j < W.ties.length)∧ρ = RO t' W h' M Ts y3 y6 y7 y8 y9) ⟨t2,h,[h],[],_,_,_,_,_,by simp,by simp,by simp,rfl⟩ (fun k hk ρ hρ => ?_) fun ρ hρ => ?_
   ·obtain ⟨t',h',M,Ts,y3,y6,y7,y8,y9,lM,lT,lo,rfl⟩:=hρ
    rw [turn_setS (by simp)]
    simp only [List.set_cons_succ,List.set_cons_zero]
    rw [sat_seq,ring_of_1 t' h' M Ts hn,sat_nx]
    refine (ring_of_2 t' h' M Ts hW hn (by omega) (by omega) lo _ _ _ _).imp (fun ρ z => ?_) (fun _ h => h.elim) (fun u ρ z => ?_) fun _ _ _ h => h
    ·obtain ⟨t'',h'',M',Ts',y6',y7',y8',y9',a,b,lo',rfl⟩:=z
     exact ⟨t'',h'',M',Ts',_,y6',y7',y8',y9',by omega,by omega,lo',rfl⟩
    ·obtain ⟨t'',h'',M',Ts',y6',y7',y8',y9',xs,a,b,rfl,rfl⟩:=z
     exact ⟨t'',xs,a,by omega,rfl,by simp⟩
   ·obtain ⟨t',h',M,Ts,y3,y6,y7,y8,y9,lM,lT,lo,rfl⟩:=hρ
    have s5:g_law_ring_of_5 (RO t' W h' M Ts y3 y6 y7 y8 y9) = .rt (.lst []) (RO t' W h' M Ts y3 y6 y7 y8 y9):=by
     simp [g_law_ring_of_5,sizeLine_eq]
    rw [s5]
    exact ⟨t',[],by simp,by simp,rfl,by simp⟩
 obtain ⟨u,back,e,t',xs,a,b,rfl,rfl⟩:=key
 exact ⟨t',xs,a,b,e⟩
end
def oddL6 (n:Nat):List D:=[.none,.bool true,.bool false,.int 0,.int 1,.int (-1),.int (n:Int),.str "",.str "ring",.tuple [],.list [],.list [.int 0],.tuple [.int 0,.int 1],.list [.bool true],.list [.none],.list [.str "0"],.list [.list [.int 0]],.int 2]
theorem odd6_gd {n:Nat} (hn:n < 600):∀ x,x∈oddL6 n→Gd 2 9 x:=by
 have l:∀ {y:D},leafD y = true→Gd 2 9 y:=fun h => .leaf _ h (by omega)
 have l1:∀ {xs:List D},xs.all leafD = true→xs.length≤3→Gd 2 9 (.tuple xs)∧Gd 2 9 (.list xs):=fun h k => ⟨(leaf_all h k).1.mono (by omega) (by omega),(leaf_all h k).2.mono (by omega) (by omega)⟩
 intro x hx
 simp only [oddL6,List.mem_cons,List.not_mem_nil,or_false] at hx
 rcases hx with rfl | rfl | rfl | rfl | rfl | rfl | rfl | rfl | rfl | rfl | rfl | rfl | rfl | rfl | rfl | rfl | rfl | rfl
 ·exact l rfl
 ·exact l rfl
 ·exact l rfl
 ·exact l rfl
 ·exact l rfl
 ·exact l rfl
 ·exact l (by simp [leafD]; omega)
 ·exact l (by decide +kernel)
 ·exact l (by decide +kernel)
 ·exact (l1 rfl (by simp)).1
 ·exact (l1 rfl (by simp)).2
 ·exact (l1 rfl (by simp)).2
 ·exact (l1 rfl (by simp)).1
 ·exact (l1 rfl (by simp)).2
 ·exact (l1 rfl (by simp)).2
 ·exact (l1 (by decide +kernel) (by simp)).2
 ·exact .lst (k:=1) (s:=4) (n:=1) (fun y hy => by
   rw [List.mem_singleton.mp hy]
   exact (leaf_all (xs:=[.int 0]) rfl (by simp)).2) (by simp) (by omega) (by omega)
 ·exact l rfl
section
variable {W:Web}
theorem law_odd (t:Tape) (hn:W.ties.length < 600):∃ x t',Gd 2 9 x∧fn_law_odd [tT t,wT W] = .ret (.d x) [some (tT t'),some (wT W)]:=by
 obtain ⟨v,t',lv,dv⟩:=drawN t (m:=18) (by omega) (by omega)
 have dv:fn_law_draw [tT t,iT 18] = .ret (iT (v:Int)) [some (tT t'),some (iT 18)]:=dv
 have lv:v < (oddL6 W.ties.length).length:=lv
 obtain ⟨x,hx,g⟩:∃ x,x∈oddL6 W.ties.length∧(oddL6 W.ties.length)[v]? = some x:=⟨(oddL6 W.ties.length)[v],List.getElem_mem lv,List.getElem?_eq_getElem lv⟩
 have ex':atI (oddL6 W.ties.length) (v:Int) = some x:=atI_nat g
 have w1:kIxA (wT W) (iT 1) = some (.d (.tuple (W.ties.map tieD))):=by simp
 have kl:kLenA (.d (.tuple (W.ties.map tieD))) = some (iT (W.ties.length:Int)):=by simp
 refine ⟨x,t',odd6_gd hn x hx,?_⟩
 have s1:g_law_odd_1 [some (tT t),some (wT W),none] = .nx [some (tT t),some (wT W),some (.d (.list (oddL6 W.ties.length)))]:=by
  generalize PyData.tuple (W.ties.map tieD) = TT at w1 kl
  simp [g_law_odd_1,sizeLine_eq,w1,kl,oddL6,-kIxA_ev]
 have ki:kIxA (.d (.list (oddL6 W.ties.length))) (iT (v:Int)) = some (.d x):=by
  simp [ex']
 have s2:g_law_odd_2 [some (tT t),some (wT W),some (.d (.list (oddL6 W.ties.length)))] = .rt (.d x) [some (tT t'),some (wT W),some (.d (.list (oddL6 W.ties.length)))]:=by
  have kl2:kLenA (.d (.list (oddL6 W.ties.length))) = some (iT 18):=rfl
  generalize PyData.list (oddL6 W.ties.length) = LL at ki kl2
  simp [g_law_odd_2,kl2,dv,ki,-kIxA_ev]
 simp [fn_law_odd,fnOf_ev,g_law_odd,s1,s2]
end
theorem lk (xs:List D):∃ U,(∀ r,asDs (U :: r) = none)∧frzOf U = some (.list xs)∧U = T.lst (xs.map T.d):=⟨_,fun _ => rfl,by simp,rfl⟩
def SmN (x:D):Prop:=∃ k:Int,k.natAbs < 500∧x = .int k
theorem SmN.gd {x:D} (h:SmN x) (n:Nat):Gd n 9 x:=by
 obtain ⟨k,hk,rfl⟩:=h
 exact .leaf _ (by simp [leafD]; omega) (by omega)
theorem gdL {xs:List D} (h:∀ x,x∈xs→Gd 2 9 x) (l:xs.length≤40):Gd 3 370 (.list xs):=.lst (k:=40) h l (by omega) (by omega)
theorem gdT {xs:List D} (h:∀ x,x∈xs→Gd 2 9 x) (l:xs.length≤40):Gd 3 370 (.tuple xs):=.tup (k:=40) h l (by omega) (by omega)
theorem gd2 {a b:D} (ha:Gd 3 370 a) (hb:Gd 3 370 b):Gd 4 1200 (.tuple [a,b])∧Gd 4 1200 (.list [a,b]):=by
 have h:∀ y,y∈[a,b]→Gd 3 370 y:=fun y hy => by
  simp only [List.mem_cons,List.not_mem_nil,or_false] at hy
  rcases hy with rfl | rfl
  ·exact ha
  ·exact hb
 exact ⟨.tup (k:=2) h (by simp) (by omega) (by omega),.lst (k:=2) h (by simp) (by omega) (by omega)⟩
section
variable {W:Web}
abbrev B6 (t:Tape) (W:Web) (X:D) (a:Option T) (o:Option T) (L:Option T) (w:D) (row:D) (y8 y9 y10 y11:Option T):Rho:=[some (tT t),some (wT W),some (.d X),a,o,L,some (.d w),some (.d row),y8,y9,y10,y11]
def GL (n:Nat) (L:List D):Prop:=(∀ x,x∈L→Gd 4 1200 x)∧L.length = n
theorem bent_4 (t:Tape) {X:D} {w:Str} {ds:List D} {o:D} {a:Nat} (hw:leafD (.str w) = true) (hd:∀ x,x∈ds→SmN x) (hl:ds.length≤16) (ho:Gd 2 9 o):∃ L,GL 4 L∧g_law_bent_4 (B6 t W X (some (iT (a:Int))) (some (.d o)) none (.str w) (.list ds) none none none none) = .nx (B6 t W X (some (iT (a:Int))) (some (.d o)) (some (.d (.list L))) (.str w) (.list ds) none none none none):=by
 obtain ⟨C1,h1,l1,e1⟩:∃ C,(∀ x,x∈C→SmN x)∧C.length≤16∧kCut (.d (.list ds)) none (some (a:Int)) = some (.lst (C.map T.d)):=⟨_,fun x hx => hd x (cut_m hx),Nat.le_trans cut_l hl,rfl⟩
 obtain ⟨C2,h2,l2,e2⟩:∃ C,(∀ x,x∈C→SmN x)∧C.length≤16∧kCut (.d (.list ds)) (some ((a:Int) + 1)) none = some (.lst (C.map T.d)):=⟨_,fun x hx => hd x (cut_m hx),Nat.le_trans cut_l hl,rfl⟩
 obtain ⟨C3,h3,l3,e3⟩:∃ C,(∀ x,x∈C→SmN x)∧C.length≤1∧kCut (.d (.list ds)) (some (a:Int)) (some ((a:Int) + 1)) = some (.lst (C.map T.d)):=⟨_,fun x hx => hd x (cut_m hx),by
  unfold cutD
  have:((a:Int) + 1) = ((a + 1:Nat):Int):=by omega
  rw [this,HT.sIx_nat,HT.sIx_nat]
  simp
  omega,rfl⟩
 obtain ⟨C4,h4,l4,e4⟩:∃ C,(∀ x,x∈C→SmN x)∧C.length≤16∧kCut (.d (.list ds)) (some (a:Int)) none = some (.lst (C.map T.d)):=⟨_,fun x hx => hd x (cut_m hx),Nat.le_trans cut_l hl,rfl⟩
 have a12:=addL (xs:=C1) (ys:=C2) (by omega)
 have a13:=addL (xs:=C1) (ys:=C3) (by omega)
 have a134:=addL (xs:=C1++C3) (ys:=C4) (by simp; omega)
 refine ⟨[.tuple [.str w,.list (C1++C2)],.tuple [.str w,.list (C1++C3++C4)],.list [.str w,.list ds],.tuple [.str w,o]],⟨?_,rfl⟩,?_⟩
 ·have gw:Gd 3 370 (.str w):=.leaf _ hw (by omega)
  intro x hx
  simp only [List.mem_cons,List.not_mem_nil,or_false] at hx
  rcases hx with rfl | rfl | rfl | rfl
  ·exact (gd2 gw (gdL (fun x hx => by
    (rcases List.mem_append.mp hx with q | q)
    ·exact (h1 x q).gd 2
    ·exact (h2 x q).gd 2) (by simp; omega))).1
  ·exact (gd2 gw (gdL (fun x hx => by
    (rcases List.mem_append.mp hx with q | q)
    ·rcases List.mem_append.mp q with q | q
     ·exact (h1 x q).gd 2
     ·exact (h3 x q).gd 2
    ·exact (h4 x q).gd 2) (by simp; omega))).1
  ·exact (gd2 gw (gdL (fun x hx => (hd x hx).gd 2) (by omega))).2
  ·exact (gd2 gw (ho.mono (by omega) (by omega))).1
 ·obtain ⟨U12,b1,f1,u1⟩:=lk (C1++C2)
  obtain ⟨U134,b2,f2,u2⟩:=lk (C1++C3++C4)
  rw [← u1] at a12
  rw [← u2] at a134
  generalize T.lst (C1.map T.d) = V1 at e1 a12 a13
  generalize T.lst (C2.map T.d) = V2 at e2 a12
  generalize T.lst (C3.map T.d) = V3 at e3 a13
  generalize T.lst (C4.map T.d) = V4 at e4 a134
  generalize T.lst ((C1++C3).map T.d) = V13 at a13 a134
  generalize C1++C2 = C12 at f1 ⊢
  generalize C1++C3++C4 = C134 at f2 ⊢
  generalize PyData.list ds = R at e1 e2 e3 e4 ⊢
  simp [g_law_bent_4,e1,e2,e3,e4,a12,a13,a134,b1,b2,f1,f2,sizeLine_eq,-kCut_dl]
theorem GL.app {n m:Nat} {L M:List D} (h:GL n L) (k:GL m M):GL (n + m) (L++M):=⟨fun x hx => by
 (rcases List.mem_append.mp hx with q | q)
 ·exact h.1 x q
 ·exact k.1 x q,by rw [List.length_append,h.2,k.2]⟩
theorem lot {L M:List D} {n m:Nat} (h:GL n L) (k:GL m M) (hn:n + m < 1000):∃ Z,kAdd (.d (.list L)) (.d (.list M)) = some Z∧frzOf Z = some (.list (L++M)):=⟨.lst ((L++M).map T.d),by
 refine kAdd_lists (by simp) (by simp) rfl rfl ?_
 rw [h.2,k.2,sizeLine_eq]
 omega,by simp⟩
theorem cutS6 {ds:List D} (hd:∀ x,x∈ds→SmN x) (hl:ds.length≤16) (lo hi:Option Int):∃ C:List D,(∀ x,x∈C→SmN x)∧C.length≤16∧kCut (.d (.list ds)) lo hi = some (.lst (C.map T.d)):=⟨_,fun x hx => hd x (cut_m hx),Nat.le_trans cut_l hl,rfl⟩
theorem app_gd {A B:List D} (ha:∀ x,x∈A→Gd 2 9 x) (hb:∀ x,x∈B→Gd 2 9 x):∀ x,x∈A++B→Gd 2 9 x:=fun x hx => by
 (rcases List.mem_append.mp hx with q | q)
 ·exact ha x q
 ·exact hb x q
theorem sm_gd {A:List D} (h:∀ x,x∈A→SmN x):∀ x,x∈A→Gd 2 9 x:=fun x hx => (h x hx).gd 2
theorem one_gd {o:D} (h:Gd 2 9 o):∀ x,x∈[o]→Gd 2 9 x:=fun x hx => by rw [List.mem_singleton.mp hx]; exact h
theorem gw3 {w:Str} (hw:leafD (.str w) = true):Gd 3 370 (.str w):=.leaf _ hw (by omega)
theorem bent_5 (t:Tape) {X:D} {w:Str} {ds:List D} {o:D} {a n:Nat} {L:List D} (hL:GL n L) (hn:n < 900) (hw:leafD (.str w) = true) (hd:∀ x,x∈ds→SmN x) (hl:ds.length≤16) (ho:Gd 2 9 o):∃ L',GL (n + 2) L'∧g_law_bent_5 (B6 t W X (some (iT (a:Int))) (some (.d o)) (some (.d (.list L))) (.str w) (.list ds) none none none none) = .nx (B6 t W X (some (iT (a:Int))) (some (.d o)) (some (.d (.list L'))) (.str w) (.list ds) none none none none):=by
 obtain ⟨C1,h1,l1,e1⟩:=cutS6 hd hl none (some (a:Int))
 obtain ⟨C2,h2,l2,e2⟩:=cutS6 hd hl (some ((a:Int) + 1)) none
 have gM:GL 2 [.tuple [.str w,.list (C1++[o]++C2)],.tuple [.str w,.list ds.reverse]]:=⟨fun x hx => by
  simp only [List.mem_cons,List.not_mem_nil,or_false] at hx
  rcases hx with rfl | rfl
  ·exact (gd2 (gw3 hw) (gdL (app_gd (app_gd (sm_gd h1) (one_gd ho)) (sm_gd h2)) (by simp; omega))).1
  ·exact (gd2 (gw3 hw) (gdL (fun x hx => (hd x (List.mem_reverse.mp hx)).gd 2) (by simp; omega))).1,rfl⟩
 refine ⟨_,hL.app gM,?_⟩
 have lt:=lot hL gM (by omega)
 have a1o:kAdd (.lst (C1.map T.d)) (.lst [.d o]) = some (.lst ((C1++[o]).map T.d)):=addL (xs:=C1) (ys:=[o]) (by simp; omega)
 have a1o2:=addL (xs:=C1++[o]) (ys:=C2) (by simp; omega)
 have er:kRevL (.d (.list ds)) = some (.lst (ds.reverse.map T.d)):=by simp
 obtain ⟨U1,b1,f1,u1⟩:=lk (C1++[o]++C2)
 obtain ⟨U2,b2,f2,u2⟩:=lk ds.reverse
 rw [← u1] at a1o2
 rw [← u2] at er
 clear u1 u2 gM
 generalize T.lst ((C1++[o]).map T.d) = V1o at a1o a1o2
 generalize T.lst (C1.map T.d) = V1 at e1 a1o
 generalize T.lst (C2.map T.d) = V2 at e2 a1o2
 generalize C1++[o]++C2 = C at f1 lt ⊢
 generalize ds.reverse = dr at f2 lt ⊢
 obtain ⟨Z,lz,fz⟩:=lt
 generalize hM:L++_ = LM at fz ⊢
 clear hM
 generalize PyData.list ds = R at e1 e2 er ⊢
 generalize PyData.list LM = RM at fz ⊢
 generalize PyData.list L = RL at lz ⊢
 simp [g_law_bent_5,e1,e2,a1o,a1o2,er,b1,b2,f1,f2,lz,fz,sizeLine_eq,-kCut_dl]
theorem bent_6 (t:Tape) {X:D} {w:Str} {ds:List D} {o:D} {a n:Nat} {L:List D} (hL:GL n L) (hn:n < 900) (hd:∀ x,x∈ds→SmN x) (hl:ds.length≤16):∃ L' t',GL (n + 1) L'∧g_law_bent_6 (B6 t W X (some (iT (a:Int))) (some (.d o)) (some (.d (.list L))) (.str w) (.list ds) none none none none) = .nx (B6 t' W X (some (iT (a:Int))) (some (.d o)) (some (.d (.list L'))) (.str w) (.list ds) none none none none):=by
 obtain ⟨v,t1,lv,dv⟩:=drawN t (m:=4) (by omega) (by omega)
 have dv:fn_law_draw [tT t,iT 4] = .ret (iT (v:Int)) [some (tT t1),some (iT 4)]:=dv
 obtain ⟨q,hq,eq⟩:∃ q:D,leafD q = true∧atI [T.d (.str "ring"),T.d (.str "sides"),T.d (.str "Ring"),T.d .none] (v:Int) = some (.d q):=by
  rcases (by omega:v = 0∨v = 1∨v = 2∨v = 3) with rfl | rfl | rfl | rfl
  ·exact ⟨.str "ring",by decide +kernel,rfl⟩
  ·exact ⟨.str "sides",by decide +kernel,rfl⟩
  ·exact ⟨.str "Ring",by decide +kernel,rfl⟩
  ·exact ⟨.none,rfl,rfl⟩
 have gM:GL 1 [.tuple [q,.list ds]]:=⟨fun x hx => by
  rw [List.mem_singleton.mp hx]
  exact (gd2 (.leaf _ hq (by omega)) (gdL (sm_gd hd) (by omega))).1,rfl⟩
 refine ⟨_,t1,hL.app gM,?_⟩
 obtain ⟨Z,lz,fz⟩:=lot hL gM (by omega)
 generalize hM:L++_ = LM at fz ⊢
 clear hM
 have lz':kAdd (.d (.list L)) (.lst [.d (.tuple [q,.list ds])]) = some Z:=by
  rw [← lz]
  rfl
 generalize PyData.list ds = R at lz' ⊢
 generalize PyData.list LM = RM at fz ⊢
 generalize PyData.list L = RL at lz' ⊢
 simp [g_law_bent_6,dv,eq,lz',fz,sizeLine_eq]
theorem bent_7 (t:Tape) {X:D} {w:Str} {ds:List D} {o:D} {a n:Nat} {L:List D} (hL:GL n L) (hn:n < 900) (hw:leafD (.str w) = true) (hd:∀ x,x∈ds→SmN x) (hl:ds.length≤16) (ho:Gd 2 9 o):∃ L',GL (n + 5) L'∧g_law_bent_7 (B6 t W X (some (iT (a:Int))) (some (.d o)) (some (.d (.list L))) (.str w) (.list ds) none none none none) = .nx (B6 t W X (some (iT (a:Int))) (some (.d o)) (some (.d (.list L'))) (.str w) (.list ds) none none none none):=by
 obtain ⟨C1,h1,l1,e1⟩:=cutS6 hd hl none (some (a:Int))
 obtain ⟨C4,h4,l4,e4⟩:=cutS6 hd hl (some (a:Int)) none
 have gM:GL 5 [.tuple [.str w,.list ds,.tuple []],.tuple [.str w],o,.tuple [.str w,.tuple ds],.tuple [.str w,.list (C4++C1)]]:=⟨fun x hx => by
  simp only [List.mem_cons,List.not_mem_nil,or_false] at hx
  rcases hx with rfl | rfl | rfl | rfl | rfl
  ·exact .tup (k:=3) (s:=370) (fun y hy => by
    simp only [List.mem_cons,List.not_mem_nil,or_false] at hy
    rcases hy with rfl | rfl | rfl
    ·exact gw3 hw
    ·exact gdL (sm_gd hd) (by omega)
    ·exact gdT (by simp) (by simp)) (by simp) (by omega) (by omega)
  ·exact .tup (k:=1) (s:=370) (fun y hy => by
    rw [List.mem_singleton.mp hy]
    exact gw3 hw) (by simp) (by omega) (by omega)
  ·exact ho.mono (by omega) (by omega)
  ·exact (gd2 (gw3 hw) (gdT (sm_gd hd) (by omega))).1
  ·exact (gd2 (gw3 hw) (gdL (app_gd (sm_gd h4) (sm_gd h1)) (by simp; omega))).1,rfl⟩
 refine ⟨_,hL.app gM,?_⟩
 have lt:=lot hL gM (by omega)
 have a41:=addL (xs:=C4) (ys:=C1) (by omega)
 have et:kTupOf (.d (.list ds)) = some (.d (.tuple ds)):=by simp
 obtain ⟨U1,b1,f1,u1⟩:=lk (C4++C1)
 rw [← u1] at a41
 clear u1 gM
 generalize T.lst (C1.map T.d) = V1 at e1 a41
 generalize T.lst (C4.map T.d) = V4 at e4 a41
 generalize C4++C1 = C at f1 lt ⊢
 obtain ⟨Z,lz,fz⟩:=lt
 generalize hM:L++_ = LM at fz ⊢
 clear hM
 generalize PyData.tuple ds = RT at et lz ⊢
 generalize PyData.list ds = R at e1 e4 et lz ⊢
 generalize PyData.list LM = RM at fz ⊢
 generalize PyData.list L = RL at lz ⊢
 simp [g_law_bent_7,e1,e4,a41,et,b1,f1,lz,fz,sizeLine_eq,-kCut_dl]
end
section
variable {W:Web}
theorem ke_row {ds:List D} (hd:∀ x,x∈ds→SmN x):kEqv true (.d (.list ds)) (.lst []) = some (bT !ds.isEmpty):=by
 have ok:Ok 1 (.list ds):=.list fun x hx => by
  obtain ⟨k,_,rfl⟩:=hd x hx
  exact .int 0 _
 rw [kEqv_at (n:=1) (x:=.list ds) (y:=.list []) rfl rfl ok (.list (.nil _))]
 cases ds <;> simp [PyData.eqv,PyData.eqvAll]
theorem bent_81 (t:Tape) {X:D} {w:Str} {ds:List D} {o:D} {a:Nat} {L:List D} (hd:∀ x,x∈ds→SmN x) (hl:ds.length≤16) (ne:ds≠[]):∃ (k j:Nat) (t':Tape),k < ds.length∧j < ds.length∧g_law_bent_8_t_1 (B6 t W X (some (iT (a:Int))) (some (.d o)) (some (.d (.list L))) (.str w) (.list ds) none none none none) = .nx (B6 t' W X (some (iT (a:Int))) (some (.d o)) (some (.d (.list L))) (.str w) (.list ds) none (some (iT (k:Int))) (some (iT (j:Int))) none):=by
 have pos:0 < ds.length:=List.length_pos_iff.mpr ne
 obtain ⟨k,t1,lk,dk⟩:=drawN t (m:=ds.length) pos (by omega)
 obtain ⟨j,t2,lj,dj⟩:=drawN t1 (m:=ds.length) pos (by omega)
 refine ⟨k,j,t2,lk,lj,?_⟩
 have kl:kLenA (.d (.list ds)) = some (iT (ds.length:Int)):=by simp
 generalize PyData.list ds = R at kl ⊢
 simp [g_law_bent_8_t_1,kl,dk,dj]
theorem bent_82 (t:Tape) {X:D} {w:Str} {ds:List D} {o:D} {a k j:Nat} {L:List D} (hd:∀ x,x∈ds→SmN x) (lk:k < ds.length) (lj:j < ds.length):∃ es:List D,(∀ x,x∈es→SmN x)∧es.length = ds.length∧(sSeq g_law_bent_8_t_2 g_law_bent_8_t_3) (B6 t W X (some (iT (a:Int))) (some (.d o)) (some (.d (.list L))) (.str w) (.list ds) none (some (iT (k:Int))) (some (iT (j:Int))) none) = .nx (B6 t W X (some (iT (a:Int))) (some (.d o)) (some (.d (.list L))) (.str w) (.list ds) (some (.lst (es.map T.d))) (some (iT (k:Int))) (some (iT (j:Int))) none):=by
 have e1:atI (ds.map T.d) (k:Int) = some (.d ds[k]):=atI_nat (by simp [lk])
 have e2:atI (ds.map T.d) (j:Int) = some (.d ds[j]):=atI_nat (by simp [lj])
 have e1':atI ds (k:Int) = some ds[k]:=atI_nat (by simp [lk])
 have e2':atI ds (j:Int) = some ds[j]:=atI_nat (by simp [lj])
 refine ⟨(ds.set k ds[j]).set j ds[k],fun x hx => ?_,by simp,?_⟩
 ·rcases List.mem_or_eq_of_mem_set hx with q | rfl
  ·rcases List.mem_or_eq_of_mem_set q with q | rfl
   ·exact hd x q
   ·exact hd _ (List.getElem_mem lj)
  ·exact hd _ (List.getElem_mem lk)
 ·have kl:kListOf (.d (.list ds)) = some (.lst (ds.map T.d)):=by simp
  have s2:g_law_bent_8_t_2 (B6 t W X (some (iT (a:Int))) (some (.d o)) (some (.d (.list L))) (.str w) (.list ds) none (some (iT (k:Int))) (some (iT (j:Int))) none) = .nx (B6 t W X (some (iT (a:Int))) (some (.d o)) (some (.d (.list L))) (.str w) (.list ds) (some (.lst (ds.map T.d))) (some (iT (k:Int))) (some (iT (j:Int))) none):=by
   generalize T.lst (ds.map T.d) = Z at kl ⊢
   generalize PyData.list ds = R at kl ⊢
   simp [g_law_bent_8_t_2,kl]
  rw [sSeq_ev,s2]
  simp [g_law_bent_8_t_3,e1,e2,e1',e2',lk,lj,sizeLine_eq]
  done
def SmM (x:D):Prop:=∃ k:Int,k.natAbs < 400∧x = .int k
theorem SmM.n {x:D} (h:SmM x):SmN x:=by
 obtain ⟨k,hk,e⟩:=h
 exact ⟨k,by omega,e⟩
theorem gx_d {ds:List D} {k:Nat} (lk:k < ds.length) (hd:∀ x,x∈ds→SmM x):∃ n:Int,n.natAbs < 400∧kIxA (.d (.list ds)) (iT (k:Int)) = some (iT n):=by
 obtain ⟨n,hn,e⟩:=hd ds[k] (List.getElem_mem lk)
 refine ⟨n,hn,?_⟩
 have:atI ds (k:Int) = some ds[k]:=atI_nat (by simp [lk])
 simp [this,e]
theorem sm_one {i:Int} (h:i.natAbs < 500):∀ x,x∈[PyData.int i]→SmN x:=fun x hx => ⟨i,h,List.mem_singleton.mp hx⟩
theorem neg_all:∀ {ds:List D},(∀ x,x∈ds→SmM x)→∃ is:List Int,ds = is.map PyData.int∧∀ i,i∈is→i.natAbs < 400
 | [],_ => ⟨[],rfl,by simp⟩
 | x :: ds,h => by
  obtain ⟨is,rfl,hi⟩:=neg_all (ds:=ds) fun y hy => h y (by simp [hy])
  obtain ⟨k,hk,rfl⟩:=h x (by simp)
  refine ⟨k :: is,rfl,fun i hi' => ?_⟩
  rcases List.mem_cons.mp hi' with rfl | q
  ·exact hk
  ·exact hi i q
theorem bent_84 (t:Tape) {X:D} {w:Str} {ds es:List D} {o:D} {a k j n:Nat} {L:List D} (hL:GL n L) (hn:n < 900) (hw:leafD (.str w) = true) (hd:∀ x,x∈ds→SmM x) (hl:ds.length≤16) (he:∀ x,x∈es→SmN x) (hel:es.length = ds.length) (lk:k < ds.length):∃ L' y8,GL (n + 3) L'∧g_law_bent_8_t_4 (B6 t W X (some (iT (a:Int))) (some (.d o)) (some (.d (.list L))) (.str w) (.list ds) (some (.lst (es.map T.d))) (some (iT (k:Int))) (some (iT (j:Int))) none) = .nx (B6 t W X (some (iT (a:Int))) (some (.d o)) (some (.d (.list L'))) (.str w) (.list ds) y8 (some (iT (k:Int))) (some (iT (j:Int))) none):=by
 have hn':∀ x,x∈ds→SmN x:=fun x hx => (hd x hx).n
 obtain ⟨C1,h1,l1,e1⟩:=cutS6 hn' hl none (some (k:Int))
 obtain ⟨C2,h2,l2,e2⟩:=cutS6 hn' hl (some ((k:Int) + 1)) none
 obtain ⟨v,hv,ev⟩:=gx_d lk hd
 obtain ⟨is,rfl,hi⟩:=neg_all hd
 have hm:∀ x,x∈(is.map fun i => PyData.int (1 - i))→SmN x:=fun x hx => by
  obtain ⟨i,q,rfl⟩:=List.mem_map.mp hx
  exact ⟨1 - i,by have:=hi i q; omega,rfl⟩
 simp only [List.length_map] at hl hel lk
 have gM:GL 3 [PyData.tuple [.str w,.list es],PyData.tuple [.str w,.list (C1++[PyData.int (1 - v)]++C2)],PyData.tuple [.str w,.list (is.map fun i => PyData.int (1 - i))]]:=⟨fun x hx => by
  simp only [List.mem_cons,List.not_mem_nil,or_false] at hx
  rcases hx with rfl | rfl | rfl
  ·exact (gd2 (gw3 hw) (gdL (sm_gd he) (by omega))).1
  ·exact (gd2 (gw3 hw) (gdL (app_gd (app_gd (sm_gd h1) (sm_gd (sm_one (by omega)))) (sm_gd h2)) (by simp; omega))).1
  ·exact (gd2 (gw3 hw) (gdL (sm_gd hm) (by simp; omega))).1,rfl⟩
 have lt:=lot hL gM (by omega)
 have a1o:kAdd (.lst (C1.map T.d)) (.lst [iT (1 - v)]) = some (.lst ((C1++[PyData.int (1 - v)]).map T.d)):=addL (xs:=C1) (ys:=[PyData.int (1 - v)]) (by simp; omega)
 have a1o2:=addL (xs:=C1++[PyData.int (1 - v)]) (ys:=C2) (by simp; omega)
 have cc:=fun (y8:Option T) => lc_all (RP:=fun ρ => ∃ t,getS ρ 7 = some t∧seqK true t = some (is.map PyData.int)) (c:=c_law_bent_1) (l:=is) (enc:=iT) (fun i => iT (1 - i)) rfl (ρ0:=B6 t W X (some (iT (a:Int))) (some (.d o)) (some (.d (.list L))) (.str w) (.list (is.map PyData.int)) y8 (some (iT (k:Int))) (some (iT (j:Int))) none) (ρ:=B6 t W X (some (iT (a:Int))) (some (.d o)) (some (.d (.list L))) (.str w) (.list (is.map PyData.int)) y8 (some (iT (k:Int))) (some (iT (j:Int))) none) (w:=Src.it ⟨some 7,true,is.map iT⟩) (by simp [Function.comp_def]) (by
   have:=rds_sl 7 true (is.map PyData.int)
   rw [List.map_map] at this
   exact this) rfl (by omega) ⟨.d (.list (is.map PyData.int)),by simp,rfl⟩ fun i hi => by
  exact ⟨B6 t W X (some (iT (a:Int))) (some (.d o)) (some (.d (.list L))) (.str w) (.list (is.map PyData.int)) y8 (some (iT (k:Int))) (some (iT (j:Int))) (some (iT i)),by simp,by simp,by simp⟩
 have um:(.lst (is.map fun i => iT (1 - i)):T) = .lst ((is.map fun i => PyData.int (1 - i)).map T.d):=by rw [List.map_map]; rfl
 simp only [um] at cc
 obtain ⟨U1,b1,f1,u1⟩:=Hu.G.lk (C1++[PyData.int (1 - v)]++C2)
 obtain ⟨U2,b2,f2,u2⟩:=Hu.G.lk (is.map fun i => PyData.int (1 - i))
 rw [← u1] at a1o2
 rw [← u2] at cc
 clear u1 u2 um
 generalize T.lst ((C1++[PyData.int (1 - v)]).map T.d) = V1o at a1o a1o2
 generalize T.lst (C1.map T.d) = V1 at e1 a1o
 generalize T.lst (C2.map T.d) = V2 at e2 a1o2
 generalize hC:C1++[PyData.int (1 - v)]++C2 = C at f1 lt gM
 generalize hN:(is.map fun i => PyData.int (1 - i)) = Ns at f2 lt gM
 obtain ⟨Z,lz,fz⟩:=lt
 refine ⟨_,none,hL.app gM,?_⟩
 ·generalize hM:L++_ = LM at fz ⊢
  clear hM
  generalize PyData.list (is.map PyData.int) = R at e1 e2 ev cc ⊢
  generalize PyData.list LM = RM at fz ⊢
  generalize PyData.list L = RL at lz cc ⊢
  simp [g_law_bent_8_t_4,e1,e2,ev,a1o,a1o2,cc,b1,b2,f1,f2,lz,fz,sizeLine_eq,-kCut_dl,-kIxA_ev]
  done
end
section
variable {W:Web}
theorem one_gd2 {A B:List D} {x:D} (ha:∀ x,x∈A→SmN x) (hb:∀ x,x∈B→SmN x) (hx:Gd 2 9 x) (la:A.length≤16) (lb:B.length≤16):Gd 3 370 (.list (A++[x]++B)):=gdL (app_gd (app_gd (sm_gd ha) (one_gd hx)) (sm_gd hb)) (by simp; omega)
theorem bent_85 (t:Tape) {X:D} {w:Str} {ds:List D} {o:D} {a k j n:Nat} {L:List D} (hL:GL n L) (hn:n < 900) (hw:leafD (.str w) = true) (hd:∀ x,x∈ds→SmM x) (hl:ds.length≤16) (lk:k < ds.length) (y8:Option T):∃ L',GL (n + 2) L'∧g_law_bent_8_t_5 (B6 t W X (some (iT (a:Int))) (some (.d o)) (some (.d (.list L))) (.str w) (.list ds) y8 (some (iT (k:Int))) (some (iT (j:Int))) none) = .nx (B6 t W X (some (iT (a:Int))) (some (.d o)) (some (.d (.list L'))) (.str w) (.list ds) y8 (some (iT (k:Int))) (some (iT (j:Int))) none):=by
 have hn':∀ x,x∈ds→SmN x:=fun x hx => (hd x hx).n
 obtain ⟨C1,h1,l1,e1⟩:=cutS6 hn' hl none (some (k:Int))
 obtain ⟨C2,h2,l2,e2⟩:=cutS6 hn' hl (some ((k:Int) + 1)) none
 obtain ⟨v,hv,ev⟩:=gx_d lk hd
 have g1:Gd 2 9 (.bool (decide (v = 1))):=.leaf _ rfl (by omega)
 have g2:Gd 2 9 (.int (v + 1)):=.leaf _ (by simp [leafD]; omega) (by omega)
 have gM:GL 2 [PyData.tuple [.str w,.list (C1++[PyData.bool (decide (v = 1))]++C2)],PyData.tuple [.str w,.list (C1++[PyData.int (v + 1)]++C2)]]:=⟨fun x hx => by
  simp only [List.mem_cons,List.not_mem_nil,or_false] at hx
  rcases hx with rfl | rfl
  ·exact (gd2 (gw3 hw) (one_gd2 h1 h2 g1 l1 l2)).1
  ·exact (gd2 (gw3 hw) (one_gd2 h1 h2 g2 l1 l2)).1,rfl⟩
 have lt:=lot hL gM (by omega)
 have a1:kAdd (.lst (C1.map T.d)) (.lst [bT (decide (v = 1))]) = some (.lst ((C1++[PyData.bool (decide (v = 1))]).map T.d)):=addL (xs:=C1) (ys:=[PyData.bool (decide (v = 1))]) (by simp; omega)
 have a12:=addL (xs:=C1++[PyData.bool (decide (v = 1))]) (ys:=C2) (by simp; omega)
 have c1:kAdd (.lst (C1.map T.d)) (.lst [iT (v + 1)]) = some (.lst ((C1++[PyData.int (v + 1)]).map T.d)):=addL (xs:=C1) (ys:=[PyData.int (v + 1)]) (by simp; omega)
 have c12:=addL (xs:=C1++[PyData.int (v + 1)]) (ys:=C2) (by simp; omega)
 have kv:kEqv false (iT v) (iT 1) = some (bT (decide (v = 1))):=by simp
 obtain ⟨U1,b1,f1,u1⟩:=Hu.G.lk (C1++[PyData.bool (decide (v = 1))]++C2)
 obtain ⟨U2,b2,f2,u2⟩:=Hu.G.lk (C1++[PyData.int (v + 1)]++C2)
 rw [← u1] at a12
 rw [← u2] at c12
 clear u1 u2 g1
 generalize T.lst ((C1++[PyData.bool (decide (v = 1))]).map T.d) = V1o at a1 a12
 generalize T.lst ((C1++[PyData.int (v + 1)]).map T.d) = V2o at c1 c12
 generalize T.lst (C1.map T.d) = V1 at e1 a1 c1
 generalize T.lst (C2.map T.d) = V2 at e2 a12 c12
 generalize C1++[PyData.bool (decide (v = 1))]++C2 = D1 at f1 lt gM
 generalize C1++[PyData.int (v + 1)]++C2 = D2 at f2 lt gM
 obtain ⟨Z,lz,fz⟩:=lt
 refine ⟨_,hL.app gM,?_⟩
 generalize hM:L++_ = LM at fz ⊢
 clear hM
 generalize decide (v = 1) = dv at a1 kv
 generalize PyData.list ds = R at e1 e2 ev ⊢
 generalize PyData.list LM = RM at fz ⊢
 generalize PyData.list L = RL at lz ⊢
 simp [g_law_bent_8_t_5,e1,e2,ev,a1,a12,c1,c12,kv,b1,b2,f1,f2,lz,fz,sizeLine_eq,-kCut_dl,-kIxA_ev,-kEqv_ii]
theorem bent_8 (t:Tape) {X:D} {w:Str} {ds:List D} {o:D} {a n:Nat} {L:List D} (hL:GL n L) (hn:n < 800) (hw:leafD (.str w) = true) (hd:∀ x,x∈ds→SmM x) (hl:ds.length≤16):∃ m L' y8 y9 y10 t',n≤m∧m < 900∧GL m L'∧g_law_bent_8 (B6 t W X (some (iT (a:Int))) (some (.d o)) (some (.d (.list L))) (.str w) (.list ds) none none none none) = .nx (B6 t' W X (some (iT (a:Int))) (some (.d o)) (some (.d (.list L'))) (.str w) (.list ds) y8 y9 y10 none):=by
 have hn':∀ x,x∈ds→SmN x:=fun x hx => (hd x hx).n
 have kr:=ke_row hn'
 by_cases c:ds = []
 ·refine ⟨n,L,none,none,none,t,by omega,by omega,hL,?_⟩
  have:ds.isEmpty = true:=by simp [c]
  rw [this] at kr
  rw [g_law_bent_8]
  generalize (sSeq g_law_bent_8_t_1 _) = Z
  generalize PyData.list ds = R at kr ⊢
  simp [kr]
 ·have:ds.isEmpty = false:=by simp [c]
  rw [this] at kr
  obtain ⟨k,j,t1,lk,lj,e1⟩:=bent_81 (W:=W) t (X:=X) (w:=w) (o:=o) (a:=a) (L:=L) hn' hl c
  obtain ⟨es,he,hel,e2⟩:=bent_82 (W:=W) t1 (X:=X) (w:=w) (o:=o) (a:=a) (L:=L) hn' lk lj
  obtain ⟨L4,y8,h4,e4⟩:=bent_84 (W:=W) t1 (X:=X) (w:=w) (o:=o) (a:=a) (j:=j) hL (by omega) hw hd hl he hel lk
  obtain ⟨L5,h5,e5⟩:=bent_85 (W:=W) t1 (X:=X) (w:=w) (o:=o) (a:=a) (j:=j) h4 (by omega) hw hd hl lk y8
  refine ⟨_,L5,y8,some (iT (k:Int)),some (iT (j:Int)),t1,by omega,by omega,h5,?_⟩
  have q:∀ Z:SG,(sIf (gTest (gP2 (kEqv true) (.nm 7) (.val (gLst [])))) Z sPass) (B6 t W X (some (iT (a:Int))) (some (.d o)) (some (.d (.list L))) (.str w) (.list ds) none none none none) = Z (B6 t W X (some (iT (a:Int))) (some (.d o)) (some (.d (.list L))) (.str w) (.list ds) none none none none):=fun Z => by
   generalize PyData.list ds = R at kr ⊢
   simp [kr]
  rw [g_law_bent_8,q,sSeq_ev,e1]
  simp only
  have assoc:(sSeq g_law_bent_8_t_2 (sSeq g_law_bent_8_t_3 (sSeq g_law_bent_8_t_4 g_law_bent_8_t_5))) (B6 t1 W X (some (iT (a:Int))) (some (.d o)) (some (.d (.list L))) (.str w) (.list ds) none (some (iT (k:Int))) (some (iT (j:Int))) none) = (sSeq (sSeq g_law_bent_8_t_2 g_law_bent_8_t_3) (sSeq g_law_bent_8_t_4 g_law_bent_8_t_5)) (B6 t1 W X (some (iT (a:Int))) (some (.d o)) (some (.d (.list L))) (.str w) (.list ds) none (some (iT (k:Int))) (some (iT (j:Int))) none):=by
   simp only [sSeq_ev]
   cases g_law_bent_8_t_2 (B6 t1 W X (some (iT (a:Int))) (some (.d o)) (some (.d (.list L))) (.str w) (.list ds) none (some (iT (k:Int))) (some (iT (j:Int))) none) <;> rfl
  rw [assoc,sSeq_ev,e2]
  simp only
  rw [sSeq_ev,e4]
  simp only
  exact e5
theorem law_bent (t:Tape) {w:Str} {ds:List D} (hn:W.ties.length < 600) (hw:leafD (.str w) = true) (hd:∀ x,x∈ds→SmM x) (hl:ds.length≤16):∃ x t',Gd 4 1200 x∧fn_law_bent [tT t,wT W,.d (.tuple [.str w,.list ds])] = .ret (.d x) [some (tT t'),some (wT W),some (.d (.tuple [.str w,.list ds]))]:=by
 have key:∃ u back,fn_law_bent [tT t,wT W,.d (.tuple [.str w,.list ds])] = .ret u back∧∃ x t',Gd 4 1200 x∧u = .d x∧back = [some (tT t'),some (wT W),some (.d (.tuple [.str w,.list ds]))]:=by
  refine fn_ret ?_
  show (g_law_bent [some (tT t),some (wT W),some (.d (.tuple [.str w,.list ds])),none,none,none,none,none,none,none,none,none]).sat _ _ _ _
  have hn':∀ x,x∈ds→SmN x:=fun x hx => (hd x hx).n
  have pp:partsOf (.d (.tuple [.str w,.list ds])) = some [.d (.str w),.d (.list ds)]:=rfl
  generalize PyData.tuple [.str w,.list ds] = X at pp ⊢
  have kl:kLenA (.d (.list ds)) = some (iT (ds.length:Int)):=by simp
  have s1:g_law_bent_1 [some (tT t),some (wT W),some (.d X),none,none,none,none,none,none,none,none,none] = .nx (B6 t W X none none none (.str w) (.list ds) none none none none):=by
   generalize PyData.list ds = R at pp ⊢
   simp [g_law_bent_1,pp]
  obtain ⟨a,t1,la,da⟩:=drawN t (m:=ds.length + 1) (by omega) (by omega)
  have da:fn_law_draw [tT t,iT ((ds.length:Int) + 1)] = .ret (iT (a:Int)) [some (tT t1),some (iT ((ds.length:Int) + 1))]:=da
  have s2:g_law_bent_2 (B6 t W X none none none (.str w) (.list ds) none none none none) = .nx (B6 t1 W X (some (iT (a:Int))) none none (.str w) (.list ds) none none none none):=by
   generalize PyData.list ds = R at kl ⊢
   simp [g_law_bent_2,kl,da]
  obtain ⟨o,t2,ho,eo⟩:=law_odd (W:=W) t1 hn
  have s3:g_law_bent_3 (B6 t1 W X (some (iT (a:Int))) none none (.str w) (.list ds) none none none none) = .nx (B6 t2 W X (some (iT (a:Int))) (some (.d o)) none (.str w) (.list ds) none none none none):=by
   have b1:∀ (m:Bool),backL m [.nm 0,.nm 1] [true,false] [some (tT t2),some (wT W)] (B6 t1 W X (some (iT (a:Int))) none none (.str w) (.list ds) none none none none) = B6 t2 W X (some (iT (a:Int))) none none (.str w) (.list ds) none none none none:=fun m => by cases m <;> rfl
   simp [g_law_bent_3,eo,b1]
  obtain ⟨L4,h4,e4⟩:=bent_4 (W:=W) t2 (X:=X) (a:=a) hw hn' hl ho
  obtain ⟨L5,h5,e5⟩:=bent_5 (W:=W) t2 (X:=X) (a:=a) h4 (by omega) hw hn' hl ho
  obtain ⟨L6,t3,h6,e6⟩:=bent_6 (W:=W) t2 (X:=X) (w:=w) (o:=o) (a:=a) h5 (by omega) hn' hl
  obtain ⟨L7,h7,e7⟩:=bent_7 (W:=W) t3 (X:=X) (a:=a) h6 (by omega) hw hn' hl ho
  obtain ⟨m,L8,y8,y9,y10,t4,l1,l2,h8,e8⟩:=bent_8 (W:=W) t3 (X:=X) (o:=o) (a:=a) h7 (by omega) hw hd hl
  obtain ⟨v,t5,lv,dv⟩:=drawN t4 (m:=L8.length) (by rw [h8.2]; omega) (by rw [h8.2]; omega)
  obtain ⟨x,hx,ex⟩:=ix_lB (l:=L8) (v:=v) lv
  have s9:g_law_bent_9 (B6 t4 W X (some (iT (a:Int))) (some (.d o)) (some (.d (.list L8))) (.str w) (.list ds) y8 y9 y10 none) = .rt (.d x) (B6 t5 W X (some (iT (a:Int))) (some (.d o)) (some (.d (.list L8))) (.str w) (.list ds) y8 y9 y10 none):=by
   have ki:kIxA (.d (.list L8)) (iT (v:Int)) = some (.d x):=by simp [ex]
   have kl8:kLenA (.d (.list L8)) = some (iT (L8.length:Int)):=by simp
   generalize PyData.list L8 = LL at ki kl8 ⊢
   generalize PyData.list ds = R
   simp [g_law_bent_9,kl8,dv,ki,-kIxA_ev]
  rw [g_law_bent,sat_seq,s1,sat_nx,sat_seq,s2,sat_nx,sat_seq,s3,sat_nx,sat_seq,e4,sat_nx,sat_seq,e5,sat_nx,sat_seq,e6,sat_nx,sat_seq,e7,sat_nx,sat_seq,e8,sat_nx,s9]
  exact ⟨x,t5,h8.1 x hx,rfl,by simp⟩
 obtain ⟨u,back,e,x,t',h,rfl,rfl⟩:=key
 exact ⟨x,t',h,e⟩
end
def ThD (x:D):Prop:=∃ (w:Str) (ds:List D),leafD (.str w) = true∧(∀ y,y∈ds→SmM y)∧ds.length≤16∧x = .tuple [.str w,.list ds]
theorem ThD.gd {x:D} (h:ThD x):Gd 4 1200 x:=by
 obtain ⟨w,ds,hw,hd,hl,rfl⟩:=h
 exact (gd2 (gw3 hw) (gdL (sm_gd fun y hy => (hd y hy).n) (by omega))).1
theorem lf_r:leafD (.str "ring") = true:=by decide +kernel
theorem lf_s:leafD (.str "sides") = true:=by decide +kernel
section
variable {W:Web}
theorem law_says (hW:W.Ok) (hm:W.many < 400) (hn:W.ties.length < 900) {x:D} (hx:Gd 4 1200 x):fn_law_says [wT W,.d x] = .ret (bT true) [some (wT W),some (.d x)]:=by
 obtain ⟨z,ez⟩:=hx.strv (by omega) (by omega)
 obtain ⟨v,e1,e2⟩:=sides_any hW hm hn hx.any
 refine fn_to ?_
 show (g_law_says [some (wT W),some (.d x),none,none]).sat _ _ _ _
 have s1:g_law_says_1 [some (wT W),some (.d x),none,none] = .nx [some (wT W),some (.d x),some (.d (.str z)),none]:=by
  simp [g_law_says_1,ez]
 have s2:g_law_says_2 [some (wT W),some (.d x),some (.d (.str z)),none] = .nx [some (wT W),some (.d x),some (.d (.str z)),some (bT v)]:=by
  simp [g_law_says_2,e1]
 have s3:g_law_says_3 [some (wT W),some (.d x),some (.d (.str z)),some (bT v)] = .rt (bT true) [some (wT W),some (.d x),some (.d (.str z)),some (bT v)]:=by
  have kb:kIsi .bool (bT v) = some (bT true):=rfl
  simp [g_law_says_3,e2,ez,kb]
 rw [g_law_says,sat_seq,s1,sat_nx,sat_seq,s2,sat_nx,s3]
 simp
abbrev LB (ns:List Int) (k:Option T) (t:Tape) (W:Web) (s:D) (y5 y6 y7 y8 y9:Option T):Rho:=[some (.scr ns),k,some (tT t),some (wT W),some (.d s),y5,y6,y7,y8,y9]
theorem law_14 (ns:List Int) (k:Option T) (t:Tape) (s:D) (hW:W.Ok) (hm:W.many≤14) (hn:W.ties.length≤39) (y5 y6 y7 y8 y9:Option T):∃ (rs:List (List D)) (t':Tape) (z7:Option T),rs.length = 4∧(∀ r,r∈rs→(∀ y,y∈r→SmM y)∧r.length≤16)∧g_law_1_4 (LB ns k t W s y5 y6 y7 y8 y9) = .nx (LB ns k t' W s (some (.d (.list (rs.map PyData.list)))) y6 z7 y8 y9):=by
 obtain ⟨ts,ρ',e,t3,rs,rfl,h2,h3,rfl⟩:=lc_gen_run (c:=c_law_1) rfl (ρ0:=LB ns k t W s y5 y6 y7 y8 y9) (ρ:=LB ns k t W s y5 y6 y7 y8 y9) (w:=rng 0 4)
  (by simp) (rds_rng 0 _ fun _ => True) rfl (by simp [rgI_length])
  (fun j acc ρ => ∃ (t':Tape) (rs:List (List D)),acc = rs.map (fun r => T.lst (r.map T.d))∧(∀ r,r∈rs→(∀ y,y∈r→SmM y)∧r.length≤16)∧rs.length = j∧ρ = LB ns k t' W s y5 y6 none y8 y9) (fun _ _ _ _ => trivial)
  (fun j acc ρ h => by
   obtain ⟨t',rs,rfl,_,h,_⟩:=h
   simp [h]) ⟨t,[],rfl,by simp,rfl,by simp⟩
  (fun j hj acc ρ h => by
   obtain ⟨t',rs,rfl,h1,h2,rfl⟩:=h
   obtain ⟨t5,xs,hx,hl,ex⟩:=law_ring_of (W:=W) t' hW (by omega) (by omega)
   refine ⟨LB ns k t' W s y5 y6 (some (iT (j:Int))) y8 y9,true,LB ns k t' W s y5 y6 (some (iT (j:Int))) y8 y9,by simp [rgI],rfl,fun _ => ⟨.lst (xs.map T.d),LB ns k t5 W s y5 y6 (some (iT (j:Int))) y8 y9,?_,t5,rs++[xs],by simp,fun r hr => ?_,by simp [h2],by simp⟩,fun hb => by cases hb⟩
   ·have b1:∀ m:Bool,backL m [.nm 2,.nm 3] [true,false] [some (tT t5),some (wT W)] (LB ns k t' W s y5 y6 (some (iT (j:Int))) y8 y9) = LB ns k t5 W s y5 y6 (some (iT (j:Int))) y8 y9:=fun m => by cases m <;> rfl
    simp [ex,b1]
   ·rcases List.mem_append.mp hr with q | q
    ·exact h1 r q
    ·rw [List.mem_singleton.mp q]
     refine ⟨fun y hy => ?_,by omega⟩
     obtain ⟨n,ln,rfl⟩:=hx y hy
     exact ⟨(n:Int),by omega,rfl⟩)
 refine ⟨rs,t3,keepD y7,by simpa [rgI_length] using h3,h2,?_⟩
 have fz:frzOf (.lst (rs.map fun r => T.lst (r.map T.d))) = some (.list (rs.map PyData.list)):=by
  have:=frzsOf_mapF (g:=fun r:List D => T.lst (r.map T.d)) (f:=PyData.list) (fun x => by simp) rs
  simp [this]
 generalize T.lst (rs.map fun r => T.lst (r.map T.d)) = Z at e fz
 simp [g_law_1_4,e,fz]
theorem law_15 (ns:List Int) (k:Option T) (t:Tape) {s:D} (hm:W.many≤14) (hs:s = .none∨∃ cs:List Nat,s = sD true cs∧cs.length = W.many∧∀ c,c∈cs→c < 2) {rs:List (List D)} (hr:rs.length = 4) (h:∀ r,r∈rs→(∀ y,y∈r→SmM y)∧r.length≤16) (y6 y7 y8 y9:Option T):∃ (th:List D) (z9:Option T),th.length = 5∧(∀ x,x∈th→ThD x)∧g_law_1_5 (LB ns k t W s (some (.d (.list (rs.map PyData.list)))) y6 y7 y8 y9) = .nx (LB ns k t W s (some (.d (.list (rs.map PyData.list)))) (some (.d (.list th))) y7 y8 z9):=by
 obtain ⟨sd,hsd,lsd,es⟩:∃ sd:List D,(∀ y,y∈sd→SmM y)∧sd.length≤16∧∀ ρ0 z9:Option T,fzT (.lst [.d (.tuple [.str "sides",.list sd])]) = .d (.list [.tuple [.str "sides",.list sd]])∧(gFzE (gLst [(.val (gTup [(.con (.str "sides") (.str "sides")),(.val (gIf (gTest (gP2 (kIsN true) (.nm 4) (.con .non .none))) (Opd.vg (.nm 4)) (gP2 kMul (.val (gLst [(.con (.int 0) (.int 0))])) (.pk (gIx kIxA (.nm 3) (.con (.int 0) (.int 0)))))))]))])) (LB ns k t W s (some (.d (.list (rs.map PyData.list)))) ρ0 y7 y8 z9) = .ok (.d (.list [.tuple [.str "sides",.list sd]])) (LB ns k t W s (some (.d (.list (rs.map PyData.list)))) ρ0 y7 y8 z9):=by
  rcases hs with rfl | ⟨cs,rfl,cl,c2⟩
  ·refine ⟨List.replicate W.many (.int 0),fun y hy => ⟨0,by simp,List.eq_of_mem_replicate hy⟩,by simp; omega,fun ρ0 z9 => ⟨by simp,?_⟩⟩
   have w0:kIxA (wT W) (iT 0) = some (iT (W.many:Int)):=by simp
   have km:kMul (.lst [iT 0]) (iT (W.many:Int)) = some (.lst ((List.replicate W.many (PyData.int 0)).map T.d)):=by
    have z2:W.many≤16777216:=by omega
    have z3:W.many < 9223372036854775808:=by omega
    simp [sizeLine_eq,z2,z3]
   obtain ⟨U,b,f,u⟩:=Hu.G.lk (List.replicate W.many (PyData.int 0))
   rw [← u] at km
   generalize List.replicate W.many (PyData.int 0) = RR at f ⊢
   generalize PyData.list (rs.map PyData.list) = RL
   simp [w0,km,b,f,sizeLine_eq,-kIxA_ev]
  ·refine ⟨cs.map fun k:Nat => PyData.int (k:Int),fun y hy => ?_,by simp; omega,fun ρ0 z9 => ⟨by simp,?_⟩⟩
   ·obtain ⟨c,hc,rfl⟩:=List.mem_map.mp hy
    exact ⟨(c:Int),by have:=c2 c hc; omega,rfl⟩
   ·have e:sD true cs = .list (cs.map fun k:Nat => PyData.int (k:Int)):=rfl
    rw [e]
    generalize (cs.map fun k:Nat => PyData.int (k:Int)) = RR
    generalize PyData.list (rs.map PyData.list) = RL
    simp [sizeLine_eq]
 have es:=fun ρ0 z9 => (es ρ0 z9).2
 have c:=lc_all (RP:=fun ρ => ∃ t,getS ρ 5 = some t∧seqK true t = some (rs.map PyData.list)) (c:=c_law_2) (l:=rs) (enc:=fun r => T.d (.list r)) (fun r => .d (.tuple [.str "ring",.list r])) rfl (ρ0:=LB ns k t W s (some (.d (.list (rs.map PyData.list)))) y6 y7 y8 y9) (ρ:=LB ns k t W s (some (.d (.list (rs.map PyData.list)))) y6 y7 y8 y9) (w:=Src.it ⟨some 5,true,rs.map fun r => T.d (.list r)⟩) (by simp [Function.comp_def]) (rds_slm 5 true PyData.list rs) rfl (by omega) ⟨.d (.list (rs.map PyData.list)),by simp,rfl⟩ fun r hr => by
  exact ⟨LB ns k t W s (some (.d (.list (rs.map PyData.list)))) y6 y7 y8 (some (.d (.list r))),by simp,by simp,by simp [sizeLine_eq]⟩
 have um:(.lst (rs.map fun r => T.d (.tuple [.str "ring",.list r])):T) = .lst ((rs.map fun r => PyData.tuple [.str "ring",.list r]).map T.d):=by rw [List.map_map]; rfl
 rw [um] at c
 have ka:kAdd (.lst ((rs.map fun r => PyData.tuple [.str "ring",.list r]).map T.d)) (.d (.list [.tuple [.str "sides",.list sd]])) = some (.lst (((rs.map fun r => PyData.tuple [.str "ring",.list r])++[PyData.tuple [.str "sides",.list sd]]).map T.d)):=by
  refine kAdd_lists (by simp) (by simp) rfl rfl ?_
  simp [sizeLine_eq,hr]
 refine ⟨(rs.map fun r => PyData.tuple [.str "ring",.list r])++[PyData.tuple [.str "sides",.list sd]],keepD y9,by simp [hr],fun x hx => ?_,?_⟩
 ·rcases List.mem_append.mp hx with q | q
  ·obtain ⟨r,hr',rfl⟩:=List.mem_map.mp q
   exact ⟨"ring",r,lf_r,(h r hr').1,(h r hr').2,rfl⟩
  ·rw [List.mem_singleton.mp q]
   exact ⟨"sides",sd,lf_s,hsd,lsd,rfl⟩
 ·have fz:frzOf (.lst (((rs.map fun r => PyData.tuple [.str "ring",.list r])++[PyData.tuple [.str "sides",.list sd]]).map T.d)) = some (.list ((rs.map fun r => PyData.tuple [.str "ring",.list r])++[PyData.tuple [.str "sides",.list sd]])):=by simp
  generalize T.lst (((rs.map fun r => PyData.tuple [.str "ring",.list r])++[PyData.tuple [.str "sides",.list sd]]).map T.d) = Z at ka fz
  generalize PyData.list ((rs.map fun r => PyData.tuple [.str "ring",.list r])++[PyData.tuple [.str "sides",.list sd]]) = ZD at fz ⊢
  generalize T.lst ((rs.map fun r => PyData.tuple [.str "ring",.list r]).map T.d) = Y at ka c
  generalize PyData.list [.tuple [.str "sides",.list sd]] = X at ka es
  have es:=es y6 (keepD y9)
  rw [g_law_1_5]
  generalize (gFzE (gLst [(.val (gTup [(.con (.str "sides") (.str "sides")),(.val (gIf (gTest (gP2 (kIsN true) (.nm 4) (.con .non .none))) (Opd.vg (.nm 4)) (gP2 kMul (.val (gLst [(.con (.int 0) (.int 0))])) (.pk (gIx kIxA (.nm 3) (.con (.int 0) (.int 0)))))))]))])) = GG at es ⊢
  generalize PyData.list (rs.map PyData.list) = RL at c es ⊢
  simp [c,es,ka,fz]
theorem law_16 (ns:List Int) (k:Option T) (t:Tape) (hW:W.Ok) (hm:W.many≤14) (hn:W.ties.length≤39) {s rl:D} {th:List D} (lt:th.length = 5) (h:∀ x,x∈th→ThD x) (y7 y8 y9:Option T):∃ z8,g_law_1_6 (LB ns k t W s (some (.d rl)) (some (.d (.list th))) y7 y8 y9) = .nx (LB ns k t W s (some (.d rl)) (some (.d (.list th))) y7 z8 y9):=by
 have c:=lc_all (RP:=fun ρ => ∃ t,getS ρ 6 = some t∧seqK true t = some th) (c:=c_law_3) (l:=th) (enc:=T.d) (fun _ => bT true) rfl (ρ0:=LB ns k t W s (some (.d rl)) (some (.d (.list th))) y7 y8 y9) (ρ:=LB ns k t W s (some (.d rl)) (some (.d (.list th))) y7 y8 y9) (w:=Src.it ⟨some 6,true,th.map T.d⟩) (by simp) (rds_sl 6 true th) rfl (by omega) ⟨.d (.list th),by simp,rfl⟩ fun x hx => by
  have e:=law_says (W:=W) hW (by omega) (by omega) (h x hx).gd
  exact ⟨LB ns k t W s (some (.d rl)) (some (.d (.list th))) y7 (some (.d x)) y9,by simp,by simp,by simp [e]⟩
 have am:=all_map (fun _:D => true) th
 have am2:th.all (fun _ => true) = true:=by simp
 rw [am2] at am
 generalize T.lst (th.map fun _ => bT true) = Z at c am
 generalize PyData.list th = TH at c ⊢
 exact ⟨keepD y8,by
  rw [g_law_1_6]
  generalize g_law_1_6_t_1 = S1
  simp [c,am]⟩
theorem law_17 (ns:List Int) (k:Option T) (t:Tape) (hW:W.Ok) (hm:W.many≤14) (hn:W.ties.length≤39) {s rl:D} {th:List D} (lt:th.length = 5) (h:∀ x,x∈th→ThD x) (y7 y8 y9:Option T):(g_law_1_7 (LB ns k t W s (some (.d rl)) (some (.d (.list th))) y7 y8 y9)).sat (fun ρ => ∃ y1 y2 y3 y4 y5 y6 y7 y8 y9,ρ = [some (.scr ns),y1,y2,y3,y4,y5,y6,y7,y8,y9]) noC noR noX:=by
 refine sat_rng (n:=10) rfl (ρ:=LB ns k t W s (some (.d rl)) (some (.d (.list th))) y7 y8 y9) (by simp) (fun n ρ => ∃ t' z7 z8,ρ = LB ns k t' W s (some (.d rl)) (some (.d (.list th))) z7 z8 y9) ⟨_,_,_,rfl⟩ (fun n hn2 ρ hρ => ?_) fun ρ hρ => by
   obtain ⟨t',z7,z8,rfl⟩:=hρ
   exact ⟨_,_,_,_,_,_,_,_,_,rfl⟩
 obtain ⟨t',z7,z8,rfl⟩:=hρ
 rw [turn_setS (by simp)]
 simp only [List.set_cons_succ,List.set_cons_zero]
 obtain ⟨b,t1,lb,db⟩:=drawN t' (m:=2) (by omega) (by omega)
 have db:fn_law_draw [tT t',iT 2] = .ret (iT (b:Int)) [some (tT t1),some (iT 2)]:=db
 obtain ⟨i,li,ei⟩:∃ i:Nat,i < 5∧atI [iT ((n:Int) % 5),iT 4] (b:Int) = some (iT (i:Int)):=by
  rcases (by omega:b = 0∨b = 1) with rfl | rfl
  ·exact ⟨n % 5,by omega,rfl⟩
  ·exact ⟨4,by omega,rfl⟩
 obtain ⟨x,hx,ex⟩:=ix_lB (l:=th) (v:=i) (by omega)
 obtain ⟨w,ds,hw,hd,hl,rfl⟩:=h x hx
 have s1:g_law_1_7_1 (LB ns k t' W s (some (.d rl)) (some (.d (.list th))) (some (iT (n:Int))) z8 y9) = .nx (LB ns k t1 W s (some (.d rl)) (some (.d (.list th))) (some (iT (n:Int))) (some (.d (.tuple [.str w,.list ds]))) y9):=by
  have ki:kIxA (.d (.list th)) (iT (i:Int)) = some (.d (.tuple [.str w,.list ds])):=by simp [ex]
  generalize PyData.tuple [.str w,.list ds] = X at ki ⊢
  generalize PyData.list th = TH at ki ⊢
  have kk:kIxA (.lst [iT ((n:Int) % 5),iT 4]) (iT (b:Int)) = some (iT (i:Int)):=by simp [ei]
  simp [g_law_1_7_1,db,ki,kk,sizeLine_eq,-kIxA_ev]
 obtain ⟨x2,t2,g2,e2⟩:=law_bent (W:=W) t1 (by omega) hw hd hl
 have e3:=law_says (W:=W) hW (by omega) (by omega) g2
 have s2:g_law_1_7_2 (LB ns k t1 W s (some (.d rl)) (some (.d (.list th))) (some (iT (n:Int))) (some (.d (.tuple [.str w,.list ds]))) y9) = .nx (LB ns k t2 W s (some (.d rl)) (some (.d (.list th))) (some (iT (n:Int))) (some (.d (.tuple [.str w,.list ds]))) y9):=by
  generalize PyData.tuple [.str w,.list ds] = X at e2 ⊢
  generalize PyData.list th = TH
  have b1:∀ (m:Bool),backL m [.nm 2,.nm 3,.nm 8] [true,false,false] [some (tT t2),some (wT W),some (.d X)] (LB ns k t1 W s (some (.d rl)) (some (.d TH)) (some (iT (n:Int))) (some (.d X)) y9) = LB ns k t2 W s (some (.d rl)) (some (.d TH)) (some (iT (n:Int))) (some (.d X)) y9:=fun m => by cases m <;> rfl
  rw [g_law_1_7_2]
  generalize g_law_1_7_2_t_1 = S1
  simp [e2,e3,b1]
 rw [sat_seq,s1,sat_nx,s2]
 exact ⟨_,_,_,rfl⟩
end
theorem law_1 (ns:List Int) (hl:ns.length≤63):(g_law_1 [some (.scr ns),none,none,none,none,none,none,none,none,none]).sat (fun ρ => ∃ y1 y2 y3 y4 y5 y6 y7 y8 y9,ρ = [some (.scr ns),y1,y2,y3,y4,y5,y6,y7,y8,y9]) noC noR noX:=by
 refine sat_rng (n:=(1 + min 12 (ns.length:Int)).toNat) rfl (ρ:=[some (.scr ns),none,none,none,none,none,none,none,none,none])
  (by
   have b:in62 (1 + min 12 (ns.length:Int)) = true:=in62_of (by omega) (by omega)
   simp [b])
  (fun k ρ => ∃ y1 y2 y3 y4 y5 y6 y7 y8 y9,ρ = [some (.scr ns),y1,y2,y3,y4,y5,y6,y7,y8,y9]) ⟨none,none,none,none,none,none,none,none,none,rfl⟩ (fun n hn ρ h => ?_) fun ρ h => h
 obtain ⟨y1,y2,y3,y4,y5,y6,y7,y8,y9,rfl⟩:=h
 rw [turn_setS (by simp)]
 simp only [List.set_cons_succ,List.set_cons_zero]
 obtain ⟨t,e1⟩:=tape ns n
 have d:=draw t (m:=8) (by omega) (by omega)
 obtain ⟨W,t2,hW,hm,hn,e2⟩:=drawn (dT t 8) (decide (dV t 8 = 0))
 have ls:=law_sides hW (by omega) (by omega)
 obtain ⟨sx,hs,hs2⟩:∃ sx,frzOf (sidesT W) = some sx∧(sx = .none∨∃ cs:List Nat,sx = sD true cs∧cs.length = W.many∧∀ c,c∈cs→c < 2):=by
  rcases both_ways2 hW (by omega) (by omega) with ⟨c,sd,e,_⟩ | ⟨e,_⟩
  ·exact ⟨_,e,.inr ⟨_,rfl,by simp,fun s h => by
    obtain ⟨p,hp,rfl⟩:=List.mem_map.mp h
    exact sd.two p (List.mem_range.mp hp)⟩⟩
  ·exact ⟨_,e,.inl rfl⟩
 have s1:g_law_1_1 [some (.scr ns),some (iT (n:Int)),y2,y3,y4,y5,y6,y7,y8,y9] = .nx [some (.scr ns),some (iT (n:Int)),some (tT t),y3,y4,y5,y6,y7,y8,y9]:=by simp [g_law_1_1,e1]
 have s2:g_law_1_2 [some (.scr ns),some (iT (n:Int)),some (tT t),y3,y4,y5,y6,y7,y8,y9] = .nx [some (.scr ns),some (iT (n:Int)),some (tT t2),some (wT W),y4,y5,y6,y7,y8,y9]:=by simp [g_law_1_2,d,e2]
 have s3:g_law_1_3 [some (.scr ns),some (iT (n:Int)),some (tT t2),some (wT W),y4,y5,y6,y7,y8,y9] = .nx [some (.scr ns),some (iT (n:Int)),some (tT t2),some (wT W),some (.d sx),y5,y6,y7,y8,y9]:=by
  have b0:∀ (m:Bool),backL m [.nm 3] [false] [some (wT W)] [some (.scr ns),some (iT (n:Int)),some (tT t2),some (wT W),y4,y5,y6,y7,y8,y9] = [some (.scr ns),some (iT (n:Int)),some (tT t2),some (wT W),y4,y5,y6,y7,y8,y9]:=fun m => by cases m <;> rfl
  simp [g_law_1_3,ls,b0]
  simp [hs]
 rw [sat_seq,s1,sat_nx,sat_seq,s2,sat_nx,sat_seq,s3,sat_nx,sat_seq]
 obtain ⟨rs,t3,z7,lr,hr,e4⟩:=law_14 (W:=W) ns (some (iT (n:Int))) t2 sx hW hm hn y5 y6 y7 y8 y9
 obtain ⟨th,z9,lt,ht,e5⟩:=law_15 (W:=W) ns (some (iT (n:Int))) t3 hm hs2 lr hr y6 z7 y8 y9
 obtain ⟨z8,e6⟩:=law_16 (W:=W) ns (some (iT (n:Int))) t3 hW hm hn (s:=sx) (rl:=.list (rs.map PyData.list)) lt ht z7 y8 z9
 rw [e4,sat_nx,sat_seq,e5,sat_nx,sat_seq,e6,sat_nx]
 exact (law_17 (W:=W) ns (some (iT (n:Int))) t3 hW hm hn lt ht z7 z8 z9).imp (fun _ h => h) (fun _ h => h.elim) (fun _ _ h => h.elim) fun _ _ _ h => h.elim
theorem law_2 (ns:List Int) (y1 y2 y3 y4 y5 y6 y7 y8 y9:Option T):∃ ρ,g_law_2 [some (.scr ns),y1,y2,y3,y4,y5,y6,y7,y8,y9] = .rt (bT true) ρ:=by
 have hW:(⟨0,[]⟩:Web).Ok:=fun p hp => by cases hp
 have ew:wT ⟨0,[]⟩ = .d (.tuple [.int 0,.tuple []]):=rfl
 have hs:∀ x,x∈[PyData.tuple [.str "sides",.list []],PyData.tuple [.str "sides",.tuple []],PyData.tuple [.str "ring",.list []],PyData.tuple [.str "sides",.list [.int 0]]]→Gd 4 1200 x:=fun x hx => by
  have e0:∀ y,y∈([]:List D)→Gd 2 9 y:=by simp
  have e1:∀ y,y∈([.int 0]:List D)→Gd 2 9 y:=one_gd (.leaf _ rfl (by omega))
  simp only [List.mem_cons,List.not_mem_nil,or_false] at hx
  rcases hx with rfl | rfl | rfl | rfl
  ·exact (gd2 (gw3 lf_s) (gdL e0 (by simp))).1
  ·exact (gd2 (gw3 lf_s) (gdT e0 (by simp))).1
  ·exact (gd2 (gw3 lf_r) (gdL e0 (by simp))).1
  ·exact (gd2 (gw3 lf_s) (gdL e1 (by simp))).1
 have c:=lc_all (RP:=fun _ => True) (c:=c_law_4) (l:=[PyData.tuple [.str "sides",.list []],PyData.tuple [.str "sides",.tuple []],PyData.tuple [.str "ring",.list []],PyData.tuple [.str "sides",.list [.int 0]]]) (enc:=T.d) (fun _ => bT true) rfl (ρ0:=[some (.scr ns),y1,y2,y3,y4,y5,y6,y7,y8,y9]) (ρ:=[some (.scr ns),y1,y2,y3,y4,y5,y6,y7,y8,y9]) (w:=Src.it ⟨none,false,[PyData.tuple [.str "sides",.list []],PyData.tuple [.str "sides",.tuple []],PyData.tuple [.str "ring",.list []],PyData.tuple [.str "sides",.list [.int 0]]].map T.d⟩) (by simp [sizeLine_eq]; rfl) (rds_st false _ fun _ => True) rfl (by simp) trivial fun x hx => by
  have e:=law_says (W:=⟨0,[]⟩) hW (by simp) (by simp) (hs x hx)
  rw [ew] at e
  refine ⟨_,rfl,by simp,?_⟩
  simp [e,sizeLine_eq]
 have am:=all_map (fun _:D => true) [PyData.tuple [.str "sides",.list []],PyData.tuple [.str "sides",.tuple []],PyData.tuple [.str "ring",.list []],PyData.tuple [.str "sides",.list [.int 0]]]
 simp only [List.all_cons,List.all_nil,Bool.and_self] at am
 generalize T.lst (([PyData.tuple [.str "sides",.list []],PyData.tuple [.str "sides",.tuple []],PyData.tuple [.str "ring",.list []],PyData.tuple [.str "sides",.list [.int 0]]]:List D).map fun _ => bT true) = Z at c am
 exact ⟨_,by
  simp [g_law_2,c,am]
  rfl⟩
theorem keeps:Keeps fn_law:=fun ns hl _ => by
 have:∃ t back,fn_law [.scr ns] = .ret t back∧t = bT true:=by
  refine fn_ret ?_
  show (g_law [some (.scr ns),none,none,none,none,none,none,none,none,none]).sat _ _ _ _
  rw [g_law,sat_seq]
  refine (law_1 ns hl).imp (fun ρ h => ?_) (fun _ h => h.elim) (fun _ _ h => h.elim) fun _ _ _ h => h.elim
  obtain ⟨y1,y2,y3,y4,y5,y6,y7,y8,y9,rfl⟩:=h
  obtain ⟨ρ,e⟩:=law_2 ns y1 y2 y3 y4 y5 y6 y7 y8 y9
  rw [e]
  rfl
 obtain ⟨t,back,e,rfl⟩:=this
 exact ⟨back,e⟩
section
variable {P:Program} {w:World} {K:PySem.W.Frag} {mg:Str→Option Value} {base:Heap} {f:Addr} {fd:FuncData} {cls:Str→Addr}
theorem sc_is_number:FnScope N_is_number ["thing"] (defScope (top 1)):=⟨rfl,rfl,rfl,by decide +kernel,rfl,by decide +kernel,by decide +kernel⟩
theorem ok_is_number (F:Fun K "is_number" "is_number" (top 1) f fd) (m_isinstance:mg "isinstance" = none) (m_int:mg "int" = none) (m_bool:mg "bool" = none) :FOk P w K mg base CX0 1 f fd ["thing"] (spT ⟨K,cls⟩ 1 fn_is_number):=by
 refine fo_ok F sc_is_number (fun vs H Q E h => h.1) (fun cdv A outer s H vs Q E hr hq h => ?_)
 have nd:=sc_is_number.nd
 have t:DSs (cxOf CX0 P w K mg base N_is_number "is_number" (defScope (top 1)) f cdv A outer s H E).nox cls (fun _ => E) (defBody (top 1)) [] g_is_number :=
  (dss_one (ds_ret (de_and (n_isi .int m_isinstance m_int (n_nm 0)) (de_one (de_not (n_isi .bool m_isinstance m_bool (n_nm 0)))))))
 exact ⟨_,t.nox,body_ok (N:=N_is_number) (fun _ _ _ _ z => z) h⟩
theorem sc_ties_by_place:FnScope N_ties_by_place ["web"] (defScope (top 2)):=⟨rfl,rfl,rfl,by decide +kernel,rfl,by decide +kernel,by decide +kernel⟩
theorem ok_ties_by_place (F:Fun K "ties_by_place" "ties_by_place" (top 2) f fd) (m_range:mg "range" = none) (m_enumerate:mg "enumerate" = none) :FOk P w K mg base CX0 1 f fd ["web"] (spT ⟨K,cls⟩ 1 fn_ties_by_place):=by
 refine fo_ok F sc_ties_by_place (fun vs H Q E h => h.1) (fun cdv A outer s H vs Q E hr hq h => ?_)
 have nd:=sc_ties_by_place.nd
 have t:DSs (cxOf CX0 P w K mg base N_ties_by_place "ties_by_place" (defScope (top 2)) f cdv A outer s H E).nox cls (fun _ => E) (defBody (top 2)) [1,2,4,5] g_ties_by_place :=
  (dss_cons (s_setLc 1 (own:=[("place",3)]) nd (i_rng1 m_range (n_ix hr (n_nm 0) de_int)) (blkOk_by (N:=N_ties_by_place) (sc:=defScope (top 2)) (by decide +kernel)) (fun _ _ _ _ _ => (t_nm 3 nd)) (fun _ _ _ _ _ => dts_nil) (fun _ _ _ _ _ => (de_lst .nil))) (dss_cons (s_for (n_enum m_enumerate (n_ix hr (n_nm 0) de_int)) (t_tup rfl (.cons rfl (t_nm 2 nd) (.cons rfl (t_tup rfl (.cons rfl (t_nm 4 nd) (.cons rfl (t_nm 5 nd) .nil))) .nil))) (dss_cons (s_drop (l_app (p_ix hr (p_nm 1) (n_nm 4)) (n_nm 2))) (dss_one (s_drop (l_app (p_ix hr (p_nm 1) (n_nm 5)) (n_nm 2)))))) (dss_one (ds_ret (n_nm 1)))))
 exact ⟨_,t.nox,body_ok (N:=N_ties_by_place) (fun _ _ _ _ z => z) h⟩
theorem sc_Going___init:FnScope N_Going___init ["self","web"] (defScope (meth 6 0)):=⟨rfl,rfl,rfl,by decide +kernel,rfl,by decide +kernel,by decide +kernel⟩
theorem ok_Going___init (F:Fun K "__init__" "Going.__init__" (meth 6 0) f fd)  (u_ties_by_place:Cg P w K mg base 1 "ties_by_place" (spT ⟨K,cls⟩ 1 fn_ties_by_place)) (oc_Going:L2.Cls K (cls "Going")) (on_Going_web:L2.NoAttr K (cls "Going") "web") (on_Going_by_place:L2.NoAttr K (cls "Going") "by_place") (on_Going_side:L2.NoAttr K (cls "Going") "side") (on_Going_came:L2.NoAttr K (cls "Going") "came"):FOk P w K mg base CX0 2 f fd ["self","web"] (spT ⟨K,cls⟩ 2 fn_Going___init):=by
 refine fo_ok F sc_Going___init (fun vs H Q E h => h.1) (fun cdv A outer s H vs Q E hr hq h => ?_)
 have nd:=sc_Going___init.nd
 have t:DSs (cxOf CX0 P w K mg base N_Going___init "Going.__init__" (defScope (meth 6 0)) f cdv A outer s H E).nox cls (fun _ => E) (defBody (meth 6 0)) [] g_Going___init :=
  (dss_cons (w_put 0 oc_Going on_Going_web (n_fz (n_nm 1))) (dss_cons (w_put 0 oc_Going on_Going_by_place (n_fz (u_call (io:=[false]) u_ties_by_place hr hq (.cons rfl (n_nm 1) .nil)))) (dss_cons (w_put 0 oc_Going on_Going_side de_newK) (dss_one (w_put 0 oc_Going on_Going_came de_newK)))))
 exact ⟨_,t.nox,body_ok (N:=N_Going___init) (fun _ _ _ _ z => z) h⟩
theorem sc_Going_go_from:FnScope N_Going_go_from ["self","place"] (defScope (meth 6 1)):=⟨rfl,rfl,rfl,by decide +kernel,rfl,by decide +kernel,by decide +kernel⟩
theorem ok_Going_go_from (F:Fun K "go_from" "Going.go_from" (meth 6 1) f fd) (m_len:mg "len" = none) (m_sum:mg "sum" = none)  (oc_Going:L2.Cls K (cls "Going")) (on_Going_side:L2.NoAttr K (cls "Going") "side") (on_Going_by_place:L2.NoAttr K (cls "Going") "by_place") (on_Going_web:L2.NoAttr K (cls "Going") "web") (on_Going_came:L2.NoAttr K (cls "Going") "came"):FOk P w K mg base CX0 1 f fd ["self","place"] (spT ⟨K,cls⟩ 2 fn_Going_go_from):=by
 refine fo_ok F sc_Going_go_from (fun vs H Q E h => h.1) (fun cdv A outer s H vs Q E hr hq h => ?_)
 have nd:=sc_Going_go_from.nd
 have t:DSs (cxOf CX0 P w K mg base N_Going_go_from "Going.go_from" (defScope (meth 6 1)) f cdv A outer s H E).nox cls (fun _ => E) (defBody (meth 6 1)) [2,3,4,5] g_Going_go_from :=
  (dss_cons (s_putL hr de_int (p_fld (p_nm 0) oc_Going on_Going_side) (n_nm 1)) (dss_cons (s_set 2 nd (de_lst (.cons rfl (n_nm 1) .nil))) (dss_cons (s_while (n_gt (n_len m_len (n_nm 2)) de_int) (dss_cons (s_set 3 nd (m_popAt 2 de_int)) (dss_one (s_for (i_seq (n_ix hr (w_fld 0 oc_Going on_Going_by_place) (n_nm 3))) (t_nm 4 nd) (dss_cons (s_set 5 nd (n_sub (n_sum rfl m_sum (n_ix hr (n_ix hr (w_fld 0 oc_Going on_Going_web) de_int) (n_nm 4))) (n_nm 3))) (dss_one (ds_if (n_notIn hr (n_nm 5) (w_fld 0 oc_Going on_Going_side)) (dss_cons (s_putL hr (n_sub de_int (n_ix hr (w_fld 0 oc_Going on_Going_side) (n_nm 3))) (p_fld (p_nm 0) oc_Going on_Going_side) (n_nm 5)) (dss_cons (s_putL hr (de_tup (.cons rfl (n_nm 4) (.cons rfl (n_nm 3) .nil))) (p_fld (p_nm 0) oc_Going on_Going_came) (n_nm 5)) (dss_one (s_drop (m_app 2 (n_nm 5)))))) (dss_one (ds_if (n_eq hr (n_ix hr (w_fld 0 oc_Going on_Going_side) (n_nm 5)) (n_ix hr (w_fld 0 oc_Going on_Going_side) (n_nm 3))) (dss_one (ds_ret (n_nm 4))) dss_nil))))))))) (dss_one (ds_ret de_non)))))
 exact ⟨_,t.nox,body_ok (N:=N_Going_go_from) (fun _ _ _ _ z => z) h⟩
theorem sc_Going_way_to:FnScope N_Going_way_to ["self","place"] (defScope (meth 6 2)):=⟨rfl,rfl,rfl,by decide +kernel,rfl,by decide +kernel,by decide +kernel⟩
theorem ok_Going_way_to (F:Fun K "way_to" "Going.way_to" (meth 6 2) f fd)   (oc_Going:L2.Cls K (cls "Going")) (on_Going_came:L2.NoAttr K (cls "Going") "came"):FOk P w K mg base CX0 1 f fd ["self","place"] (spT ⟨K,cls⟩ 2 fn_Going_way_to):=by
 refine fo_ok F sc_Going_way_to (fun vs H Q E h => h.1) (fun cdv A outer s H vs Q E hr hq h => ?_)
 have nd:=sc_Going_way_to.nd
 have t:DSs (cxOf CX0 P w K mg base N_Going_way_to "Going.way_to" (defScope (meth 6 2)) f cdv A outer s H E).nox cls (fun _ => E) (defBody (meth 6 2)) [2,3,1] g_Going_way_to :=
  (dss_cons (s_set 2 nd (de_lst .nil)) (dss_cons (s_while (n_in hr (n_nm 1) (w_fld 0 oc_Going on_Going_came)) (dss_cons (s_asg (n_ix hr (w_fld 0 oc_Going on_Going_came) (n_nm 1)) (t_tup rfl (.cons rfl (t_nm 3 nd) (.cons rfl (t_nm 1 nd) .nil)))) (dss_one (s_drop (m_app 2 (n_nm 3)))))) (dss_one (ds_ret (n_nm 2)))))
 exact ⟨_,t.nox,body_ok (N:=N_Going_way_to) (fun _ _ _ _ z => z) h⟩
theorem sc_Going_ring_by:FnScope N_Going_ring_by ["self","tie"] (defScope (meth 6 3)):=⟨rfl,rfl,rfl,by decide +kernel,rfl,by decide +kernel,by decide +kernel⟩
theorem ok_Going_ring_by (F:Fun K "ring_by" "Going.ring_by" (meth 6 3) f fd)  (u_Going_way_to:CgM P w K mg base 1 (cls "Going") "way_to" (spT ⟨K,cls⟩ 2 fn_Going_way_to)) (oc_Going:L2.Cls K (cls "Going")) (on_Going_web:L2.NoAttr K (cls "Going") "web"):FOk P w K mg base CX0 2 f fd ["self","tie"] (spT ⟨K,cls⟩ 2 fn_Going_ring_by):=by
 refine fo_ok F sc_Going_ring_by (fun vs H Q E h => h.1) (fun cdv A outer s H vs Q E hr hq h => ?_)
 have nd:=sc_Going_ring_by.nd
 have t:DSs (cxOf CX0 P w K mg base N_Going_ring_by "Going.ring_by" (defScope (meth 6 3)) f cdv A outer s H E).nox cls (fun _ => E) (defBody (meth 6 3)) [2,3,4,5] g_Going_ring_by :=
  (dss_cons (s_asg (n_ix hr (n_ix hr (w_fld 0 oc_Going on_Going_web) de_int) (n_nm 1)) (t_tup rfl (.cons rfl (t_nm 2 nd) (.cons rfl (t_nm 3 nd) .nil)))) (dss_cons (s_par 4 5 nd (.cons rfl (w_own 0 (io:=[false]) u_Going_way_to oc_Going hr hq (.cons rfl (n_nm 2) .nil)) (.cons rfl (w_own 0 (io:=[false]) u_Going_way_to oc_Going hr hq (.cons rfl (n_nm 3) .nil)) .nil))) (dss_cons (s_while (L2.PW.pt (dw_and (n_ne hr (n_nm 4) (de_lst .nil)) (dw_and (n_ne hr (n_nm 5) (de_lst .nil)) (dw_and1 (n_eq hr (n_ix hr (n_nm 4) (n_neg de_int)) (n_ix hr (n_nm 5) (n_neg de_int))))))) (dss_cons (s_drop (m_pop 4 )) (dss_one (s_drop (m_pop 5 ))))) (dss_one (ds_ret (n_add (n_add (n_nm 4) (n_revL (n_nm 5))) (de_lst (.cons rfl (n_nm 1) .nil))))))))
 exact ⟨_,t.nox,body_ok (N:=N_Going_ring_by) (fun _ _ _ _ z => z) h⟩
theorem sc_two_sides:FnScope N_two_sides ["web"] (defScope (top 7)):=⟨rfl,rfl,rfl,by decide +kernel,rfl,by decide +kernel,by decide +kernel⟩
theorem ok_two_sides (F:Fun K "two_sides" "two_sides" (top 7) f fd) (m_range:mg "range" = none) {k_RING:Tok} (c_RING:mg "RING" = some (.str "ring" k_RING)) {k_SIDES:Tok} (c_SIDES:mg "SIDES" = some (.str "sides" k_SIDES)) (u_Going___init:CgI P w K mg base 2 "Going" (cls "Going") (spT ⟨K,cls⟩ 2 fn_Going___init)) (u_Going_go_from:CgM P w K mg base 1 (cls "Going") "go_from" (spT ⟨K,cls⟩ 2 fn_Going_go_from)) (u_Going_ring_by:CgM P w K mg base 2 (cls "Going") "ring_by" (spT ⟨K,cls⟩ 2 fn_Going_ring_by)) (oc_Going:L2.Cls K (cls "Going")) (on_Going_side:L2.NoAttr K (cls "Going") "side"):FOk P w K mg base CX0 4 f fd ["web"] (spT ⟨K,cls⟩ 1 fn_two_sides):=by
 refine fo_ok F sc_two_sides (fun vs H Q E h => h.1) (fun cdv A outer s H vs Q E hr hq h => ?_)
 have nd:=sc_two_sides.nd
 have t:DSs (cxOf CX0 P w K mg base N_two_sides "two_sides" (defScope (top 7)) f cdv A outer s H E).nox cls (fun _ => E) (defBody (top 7)) [1,2,3] g_two_sides :=
  (dss_cons (s_set 1 nd (w_make (c:="Going") (io:=[false]) u_Going___init hr hq (.cons rfl (n_nm 0) .nil))) (dss_cons (s_for (i_rng1 m_range (n_ix hr (n_nm 0) de_int)) (t_nm 2 nd) (dss_one (ds_if (n_notIn hr (n_nm 2) (w_fld 1 oc_Going on_Going_side)) (dss_cons (s_set 3 nd (w_own 1 (io:=[false]) u_Going_go_from oc_Going hr hq (.cons rfl (n_nm 2) .nil))) (dss_one (ds_if (n_isNot (n_nm 3) de_non) (dss_one (ds_ret (de_tup (.cons rfl (n_const (v:=.str "ring") (d:=.str "ring") c_RING ⟨_,rfl⟩ (by simp [conOk])) (.cons rfl (w_own 1 (io:=[false]) u_Going_ring_by oc_Going hr hq (.cons rfl (n_nm 3) .nil)) .nil))))) dss_nil))) dss_nil))) (dss_one (ds_ret (de_tup (.cons rfl (n_const (v:=.str "sides") (d:=.str "sides") c_SIDES ⟨_,rfl⟩ (by simp [conOk])) (.cons rfl (n_lc (own:=[("place",2)]) nd (i_rng1 m_range (n_ix hr (n_nm 0) de_int)) (blkOk_by (N:=N_two_sides) (sc:=defScope (top 7)) (by decide +kernel)) (fun _ _ _ _ _ => (t_nm 2 nd)) (fun _ _ _ _ _ => dts_nil) (fun _ _ _ _ _ => (n_ix hr (w_fld 1 oc_Going on_Going_side) (n_nm 2)))) .nil)))))))
 exact ⟨_,t.nox,body_ok (N:=N_two_sides) (fun _ _ _ _ z => z) h⟩
theorem sc_are_sides:FnScope N_are_sides ["web","thing"] (defScope (top 8)):=⟨rfl,rfl,rfl,by decide +kernel,rfl,by decide +kernel,by decide +kernel⟩
theorem ok_are_sides (F:Fun K "are_sides" "are_sides" (top 8) f fd) (m_isinstance:mg "isinstance" = none) (m_list:mg "list" = none) (m_tuple:mg "tuple" = none) (m_len:mg "len" = none) (m_all:mg "all" = none) {k_SIDES:Tok} (c_SIDES:mg "SIDES" = some (.str "sides" k_SIDES)) (u_is_number:Cg P w K mg base 1 "is_number" (spT ⟨K,cls⟩ 1 fn_is_number)) (u_two_sides:Cg P w K mg base 4 "two_sides" (spT ⟨K,cls⟩ 1 fn_two_sides)):FOk P w K mg base CX0 5 f fd ["web","thing"] (spT ⟨K,cls⟩ 2 fn_are_sides):=by
 refine fo_ok F sc_are_sides (fun vs H Q E h => h.1) (fun cdv A outer s H vs Q E hr hq h => ?_)
 have nd:=sc_are_sides.nd
 have t:DSs (cxOf CX0 P w K mg base N_are_sides "are_sides" (defScope (top 8)) f cdv A outer s H E).nox cls (fun _ => E) (defBody (top 8)) [2] g_are_sides :=
  (dss_cons (ds_if (L2.PW.pt (dw_or (dt_not (n_tru (n_isi2 .list .tuple m_isinstance m_list m_tuple (n_nm 1)))) (dw_or1 (n_ne hr (n_len m_len (n_nm 1)) (n_ix hr (n_nm 0) de_int))))) (dss_one (ds_ret de_bl)) dss_nil) (dss_cons (ds_if (dt_not (n_tru (n_all rfl m_all (n_lc (own:=[("side",3)]) nd (i_seq (n_nm 1)) (blkOk_by (N:=N_are_sides) (sc:=defScope (top 8)) (by decide +kernel)) (fun _ _ _ _ _ => (t_nm 3 nd)) (fun _ _ _ _ _ => dts_nil) (fun _ _ _ _ _ => (de_and (u_call (io:=[false]) u_is_number hr hq (.cons rfl (n_nm 3) .nil)) (de_one (de_chain de_int (.cons op_le (n_nm 3) (.one op_le de_int)) (by with_unfolding_all rfl))))))))) (dss_one (ds_ret de_bl)) dss_nil) (dss_cons (s_set 2 nd (u_call (io:=[false]) u_two_sides hr hq (.cons rfl (n_nm 0) .nil))) (dss_one (ds_ret (de_and (v_eq hr (n_ix hr (n_nm 2) de_int) (n_const (v:=.str "sides") (d:=.str "sides") c_SIDES ⟨_,rfl⟩ (by simp [conOk]))) (de_one (v_eq hr (n_list m_list (n_nm 1)) (n_ix hr (n_nm 2) de_int)))))))))
 exact ⟨_,t.nox,body_ok (N:=N_are_sides) (fun _ _ _ _ z => z) h⟩
theorem sc_goes_round:FnScope N_goes_round ["web","ties","place"] (defScope (top 10)):=⟨rfl,rfl,rfl,by decide +kernel,rfl,by decide +kernel,by decide +kernel⟩
theorem ok_goes_round (F:Fun K "goes_round" "goes_round" (top 10) f fd) (m_sum:mg "sum" = none) :FOk P w K mg base CX0 1 f fd ["web","ties","place"] (spT ⟨K,cls⟩ 3 fn_goes_round):=by
 refine fo_ok F sc_goes_round (fun vs H Q E h => h.1) (fun cdv A outer s H vs Q E hr hq h => ?_)
 have nd:=sc_goes_round.nd
 have t:DSs (cxOf CX0 P w K mg base N_goes_round "goes_round" (defScope (top 10)) f cdv A outer s H E).nox cls (fun _ => E) (defBody (top 10)) [3,4,2] g_goes_round :=
  (dss_cons (s_set 3 nd (de_lst .nil)) (dss_cons (s_for (i_seq (n_nm 1)) (t_nm 4 nd) (dss_cons (ds_if (L2.PW.pt (dw_or (n_notIn hr (n_nm 2) (n_ix hr (n_ix hr (n_nm 0) de_int) (n_nm 4))) (dw_or1 (n_in hr (n_nm 2) (n_nm 3))))) (dss_one (ds_ret de_bl)) dss_nil) (dss_cons (s_drop (m_app 3 (n_nm 2))) (dss_one (s_set 2 nd (n_sub (n_sum rfl m_sum (n_ix hr (n_ix hr (n_nm 0) de_int) (n_nm 4))) (n_nm 2))))))) (dss_one (ds_ret (v_eq hr (n_nm 2) (n_ix hr (n_nm 3) de_int))))))
 exact ⟨_,t.nox,body_ok (N:=N_goes_round) (fun _ _ _ _ z => z) h⟩
theorem sc_is_ring:FnScope N_is_ring ["web","thing"] (defScope (top 9)):=⟨rfl,rfl,rfl,by decide +kernel,rfl,by decide +kernel,by decide +kernel⟩
theorem ok_is_ring (F:Fun K "is_ring" "is_ring" (top 9) f fd) (m_isinstance:mg "isinstance" = none) (m_list:mg "list" = none) (m_tuple:mg "tuple" = none) (m_len:mg "len" = none) (m_all:mg "all" = none) (m_any:mg "any" = none) (u_is_number:Cg P w K mg base 1 "is_number" (spT ⟨K,cls⟩ 1 fn_is_number)) (u_goes_round:Cg P w K mg base 1 "goes_round" (spT ⟨K,cls⟩ 3 fn_goes_round)):FOk P w K mg base CX0 2 f fd ["web","thing"] (spT ⟨K,cls⟩ 2 fn_is_ring):=by
 refine fo_ok F sc_is_ring (fun vs H Q E h => h.1) (fun cdv A outer s H vs Q E hr hq h => ?_)
 have nd:=sc_is_ring.nd
 have t:DSs (cxOf CX0 P w K mg base N_is_ring "is_ring" (defScope (top 9)) f cdv A outer s H E).nox cls (fun _ => E) (defBody (top 9)) [] g_is_ring :=
  (dss_cons (ds_if (L2.PW.pt (dw_or (dt_not (n_tru (n_isi2 .list .tuple m_isinstance m_list m_tuple (n_nm 1)))) (dw_or (n_lt (n_len m_len (n_nm 1)) de_int) (dw_or1 (n_eq hr (n_mod (n_len m_len (n_nm 1)) de_int) de_int))))) (dss_one (ds_ret de_bl)) dss_nil) (dss_cons (ds_if (dt_not (n_tru (n_all rfl m_all (n_lc (own:=[("tie",3)]) nd (i_seq (n_nm 1)) (blkOk_by (N:=N_is_ring) (sc:=defScope (top 9)) (by decide +kernel)) (fun _ _ _ _ _ => (t_nm 3 nd)) (fun _ _ _ _ _ => dts_nil) (fun _ _ _ _ _ => (de_and (u_call (io:=[false]) u_is_number hr hq (.cons rfl (n_nm 3) .nil)) (de_one (de_chain de_int (.cons op_le (n_nm 3) (.one op_lt (n_len m_len (n_ix hr (n_nm 0) de_int)))) (by with_unfolding_all rfl))))))))) (dss_one (ds_ret de_bl)) dss_nil) (dss_one (ds_ret (n_any rfl m_any (n_lc (own:=[("place",2)]) nd (i_seq (n_ix hr (n_ix hr (n_nm 0) de_int) (n_ix hr (n_nm 1) de_int))) (blkOk_by (N:=N_is_ring) (sc:=defScope (top 9)) (by decide +kernel)) (fun _ _ _ _ _ => (t_nm 2 nd)) (fun _ _ _ _ _ => dts_nil) (fun _ _ _ _ _ => (u_call (io:=[false,false,false]) u_goes_round hr hq (.cons rfl (n_nm 0) (.cons rfl (n_nm 1) (.cons rfl (n_nm 2) .nil)))))))))))
 exact ⟨_,t.nox,body_ok (N:=N_is_ring) (fun _ _ _ _ z => z) h⟩
theorem sc_shows_sides:FnScope N_shows_sides ["web","thing"] (defScope (top 11)):=⟨rfl,rfl,rfl,by decide +kernel,rfl,by decide +kernel,by decide +kernel⟩
theorem ok_shows_sides (F:Fun K "shows_sides" "shows_sides" (top 11) f fd) (m_isinstance:mg "isinstance" = none) (m_tuple:mg "tuple" = none) (m_len:mg "len" = none) (m_str:mg "str" = none) {k_SIDES:Tok} (c_SIDES:mg "SIDES" = some (.str "sides" k_SIDES)) {k_RING:Tok} (c_RING:mg "RING" = some (.str "ring" k_RING)) (u_are_sides:Cg P w K mg base 5 "are_sides" (spT ⟨K,cls⟩ 2 fn_are_sides)) (u_is_ring:Cg P w K mg base 2 "is_ring" (spT ⟨K,cls⟩ 2 fn_is_ring)):FOk P w K mg base CX0 6 f fd ["web","thing"] (spT ⟨K,cls⟩ 2 fn_shows_sides):=by
 refine fo_ok F sc_shows_sides (fun vs H Q E h => h.1) (fun cdv A outer s H vs Q E hr hq h => ?_)
 have nd:=sc_shows_sides.nd
 have t:DSs (cxOf CX0 P w K mg base N_shows_sides "shows_sides" (defScope (top 11)) f cdv A outer s H E).nox cls (fun _ => E) (defBody (top 11)) [] g_shows_sides :=
  (dss_cons (ds_if (L2.PW.pt (dw_or (dt_not (n_tru (n_isi .tuple m_isinstance m_tuple (n_nm 1)))) (dw_or (n_ne hr (n_len m_len (n_nm 1)) de_int) (dw_or1 (dt_not (n_tru (n_isi .str m_isinstance m_str (n_ix hr (n_nm 1) de_int)))))))) (dss_one (ds_ret de_bl)) dss_nil) (dss_cons (ds_if (n_eq hr (n_ix hr (n_nm 1) de_int) (n_const (v:=.str "sides") (d:=.str "sides") c_SIDES ⟨_,rfl⟩ (by simp [conOk]))) (dss_one (ds_ret (u_call (io:=[false,false]) u_are_sides hr hq (.cons rfl (n_nm 0) (.cons rfl (n_ix hr (n_nm 1) de_int) .nil))))) dss_nil) (dss_one (ds_ret (de_and (v_eq hr (n_ix hr (n_nm 1) de_int) (n_const (v:=.str "ring") (d:=.str "ring") c_RING ⟨_,rfl⟩ (by simp [conOk]))) (de_one (u_call (io:=[false,false]) u_is_ring hr hq (.cons rfl (n_nm 0) (.cons rfl (n_ix hr (n_nm 1) de_int) .nil)))))))))
 exact ⟨_,t.nox,body_ok (N:=N_shows_sides) (fun _ _ _ _ z => z) h⟩
theorem sc_law_tape:FnScope N_law_tape ["_law_script","_law_k"] (defScope (top 13)):=⟨rfl,rfl,rfl,by decide +kernel,rfl,by decide +kernel,by decide +kernel⟩
theorem ok_law_tape (F:Fun K "_law_tape" "_law_tape" (top 13) f fd) (m_len:mg "len" = none) (m_abs:mg "abs" = none) (m_int:mg "int" = none) :FOk P w K mg base CX0 1 f fd ["_law_script","_law_k"] (spT ⟨K,cls⟩ 2 fn_law_tape):=by
 refine fo_ok F sc_law_tape (fun vs H Q E h => h.1) (fun cdv A outer s H vs Q E hr hq h => ?_)
 have nd:=sc_law_tape.nd
 have t:DSs (cxOf CX0 P w K mg base N_law_tape "_law_tape" (defScope (top 13)) f cdv A outer s H E).nox cls (fun _ => E) (defBody (top 13)) [2,2,3] g_law_tape :=
  (dss_cons (s_set 2 nd de_int) (dss_cons (ds_if (n_lt (n_nm 1) (n_len m_len (n_nm 0))) (dss_one (s_set 2 nd (n_ix hr (n_nm 0) (n_nm 1)))) dss_nil) (dss_cons (s_set 3 nd (n_mul (n_abs m_abs (n_nm 2)) (n_int m_int (v_ge (n_abs m_abs (n_nm 2)) (n_pow de_int de_int))))) (dss_one (ds_ret (de_lst (.cons rfl (n_nm 3) (.cons rfl (n_mod (n_mul (n_mod (n_add (n_add (n_nm 2) (n_mul de_int (n_nm 1))) de_int) de_int) de_int) de_int) .nil))))))))
 exact ⟨_,t.nox,body_ok (N:=N_law_tape) (fun _ _ _ _ z => z) h⟩
theorem sc_law_draw:FnScope N_law_draw ["_law_tape_here","_law_many"] (defScope (top 14)):=⟨rfl,rfl,rfl,by decide +kernel,rfl,by decide +kernel,by decide +kernel⟩
theorem ok_law_draw (F:Fun K "_law_draw" "_law_draw" (top 14) f fd)  :FOk P w K mg base CX0 1 f fd ["_law_tape_here","_law_many"] (spT ⟨K,cls⟩ 2 fn_law_draw):=by
 refine fo_ok F sc_law_draw (fun vs H Q E h => h.1) (fun cdv A outer s H vs Q E hr hq h => ?_)
 have nd:=sc_law_draw.nd
 have t:DSs (cxOf CX0 P w K mg base N_law_draw "_law_draw" (defScope (top 14)) f cdv A outer s H E).nox cls (fun _ => E) (defBody (top 14)) [3,2] g_law_draw :=
  (dss_cons (ds_if (n_gt (n_ix hr (n_nm 0) de_int) de_int) (dss_cons (s_set 3 nd (n_mod (n_ix hr (n_nm 0) de_int) (n_nm 1))) (dss_cons (s_put 0 hr (n_div (n_ix hr (n_nm 0) de_int) (n_nm 1)) de_int) (dss_one (ds_ret (n_nm 3))))) dss_nil) (dss_cons (s_put 0 hr (n_mod (n_add (n_mul (n_ix hr (n_nm 0) de_int) de_int) de_int) de_int) de_int) (dss_cons (s_set 2 nd (n_mod (n_mul (n_ix hr (n_nm 0) de_int) (n_add (n_mod (n_ix hr (n_nm 0) de_int) de_int) de_int)) de_int)) (dss_one (ds_ret (n_mod (n_mod (n_mul (n_nm 2) (n_add (n_mod (n_nm 2) de_int) de_int)) de_int) (n_nm 1)))))))
 exact ⟨_,t.nox,body_ok (N:=N_law_draw) (fun _ _ _ _ z => z) h⟩
theorem sc_law_pairs_by:FnScope N_law_pairs_by ["_law_tape_here","_law_great"] (defScope (top 15)):=⟨rfl,rfl,rfl,by decide +kernel,rfl,by decide +kernel,by decide +kernel⟩
theorem ok_law_pairs_by (F:Fun K "_law_pairs_by" "_law_pairs_by" (top 15) f fd) (m_int:mg "int" = none) (m_range:mg "range" = none) (m_min:mg "min" = none) (u_law_draw:Cg P w K mg base 1 "_law_draw" (spT ⟨K,cls⟩ 2 fn_law_draw)):FOk P w K mg base CX0 2 f fd ["_law_tape_here","_law_great"] (spT ⟨K,cls⟩ 2 fn_law_pairs_by):=by
 refine fo_ok F sc_law_pairs_by (fun vs H Q E h => h.1) (fun cdv A outer s H vs Q E hr hq h => ?_)
 have nd:=sc_law_pairs_by.nd
 have t:DSs (cxOf CX0 P w K mg base N_law_pairs_by "_law_pairs_by" (defScope (top 15)) f cdv A outer s H E).nox cls (fun _ => E) (defBody (top 15)) [2,3,4,5,8,4,4,3,6,7,6,3,6] g_law_pairs_by :=
  (dss_cons (s_set 2 nd (u_call (io:=[true,false]) u_law_draw hr hq (.cons rfl (n_nm 0) (.cons rfl de_int .nil)))) (dss_cons (s_set 3 nd (n_ix hr (de_lst (.cons rfl (u_call (io:=[true,false]) u_law_draw hr hq (.cons rfl (n_nm 0) (.cons rfl de_int .nil))) (.cons rfl (n_add de_int (u_call (io:=[true,false]) u_law_draw hr hq (.cons rfl (n_nm 0) (.cons rfl de_int .nil)))) .nil))) (n_int m_int (n_nm 1)))) (dss_cons (s_set 4 nd (de_lst .nil)) (dss_cons (ds_if (L2.PW.pt (dw_and (n_lt (n_nm 2) de_int) (dw_and1 (n_gt (n_nm 3) de_int)))) (dss_one (s_for (i_rng1 m_range (u_call (io:=[true,false]) u_law_draw hr hq (.cons rfl (n_nm 0) (.cons rfl (n_add (n_mul de_int (n_nm 3)) de_int) .nil)))) (t_nm 5 nd) (dss_cons (s_set 8 nd (u_call (io:=[true,false]) u_law_draw hr hq (.cons rfl (n_nm 0) (.cons rfl (n_nm 3) .nil)))) (dss_one (s_drop (m_app 4 (de_tup (.cons rfl (n_nm 8) (.cons rfl (n_mod (n_add (n_add (n_nm 8) de_int) (u_call (io:=[true,false]) u_law_draw hr hq (.cons rfl (n_nm 0) (.cons rfl (n_sub (n_nm 3) de_int) .nil)))) (n_nm 3)) .nil))))))))) dss_nil) (dss_cons (ds_if (L2.PW.pt (dw_and (n_eq hr (n_nm 2) de_int) (dw_and1 (n_gt (n_nm 3) de_int)))) (dss_one (s_set 4 nd (n_add (n_lc (own:=[("_law_k",6)]) nd (i_rng1 m_range (n_nm 3)) (blkOk_by (N:=N_law_pairs_by) (sc:=defScope (top 15)) (by decide +kernel)) (fun _ _ _ _ _ => (t_nm 6 nd)) (fun _ _ _ _ _ => dts_nil) (fun _ _ _ _ _ => (de_tup (.cons rfl (n_nm 6) (.cons rfl (n_mod (n_add (n_nm 6) de_int) (n_nm 3)) .nil))))) (de_lst (.cons rfl (de_tup (.cons rfl de_int (.cons rfl (n_add (u_call (io:=[true,false]) u_law_draw hr hq (.cons rfl (n_nm 0) (.cons rfl (n_sub (n_nm 3) de_int) .nil))) de_int) .nil))) .nil))))) dss_nil) (dss_cons (ds_if (L2.PW.pt (dw_and (n_eq hr (n_nm 2) de_int) (dw_and1 (n_gt (n_nm 3) de_int)))) (dss_one (s_setLc 4 (own:=[("_law_k",6)]) nd (i_rng2 m_range de_int (n_nm 3)) (blkOk_by (N:=N_law_pairs_by) (sc:=defScope (top 15)) (by decide +kernel)) (fun _ _ _ _ _ => (t_nm 6 nd)) (fun _ _ _ _ _ => dts_nil) (fun _ _ _ _ _ => (de_tup (.cons rfl de_int (.cons rfl (n_nm 6) .nil)))))) dss_nil) (dss_cons (ds_if (n_eq hr (n_nm 2) de_int) (dss_cons (s_set 3 nd (n_min2 rfl m_min (n_nm 3) (n_add de_int (n_int m_int (n_nm 1))))) (dss_one (s_for (i_rng1 m_range (n_nm 3)) (t_nm 6 nd) (dss_one (s_drop (m_ext 4 (n_lc (own:=[("_law_j",9)]) nd (i_rng1 m_range (n_nm 6)) (blkOk_by (N:=N_law_pairs_by) (sc:=defScope (top 15)) (by decide +kernel)) (fun _ _ _ _ _ => (t_nm 9 nd)) (fun _ _ _ _ _ => dts_nil) (fun _ _ _ _ _ => (de_tup (.cons rfl (n_nm 9) (.cons rfl (n_nm 6) .nil))))))))))) dss_nil) (dss_cons (ds_if (n_eq hr (n_nm 2) de_int) (dss_cons (s_set 7 nd (n_add de_int (n_div (n_nm 3) de_int))) (dss_one (s_for (i_rng1 m_range (n_nm 7)) (t_nm 6 nd) (dss_one (s_drop (m_ext 4 (n_lc (own:=[("_law_j",9)]) nd (i_rng2 m_range (n_nm 7) (n_nm 3)) (blkOk_by (N:=N_law_pairs_by) (sc:=defScope (top 15)) (by decide +kernel)) (fun _ _ _ _ _ => (t_nm 9 nd)) (fun _ _ _ _ _ => (dts_one (n_gt (u_call (io:=[true,false]) u_law_draw hr hq (.cons rfl (n_nm 0) (.cons rfl de_int .nil))) de_int))) (fun _ _ _ _ _ => (de_tup (.cons rfl (n_nm 6) (.cons rfl (n_nm 9) .nil))))))))))) dss_nil) (dss_cons (ds_if (n_eq hr (n_nm 2) de_int) (dss_cons (s_set 3 nd (n_add de_int (n_div (n_nm 3) de_int))) (dss_one (s_for (i_rng1 m_range de_int) (t_nm 6 nd) (dss_one (s_drop (m_ext 4 (n_mul (de_lst (.cons rfl (de_tup (.cons rfl (n_nm 6) (.cons rfl (n_mod (n_add (n_nm 6) de_int) de_int) .nil))) .nil)) (n_add de_int (u_call (io:=[true,false]) u_law_draw hr hq (.cons rfl (n_nm 0) (.cons rfl de_int .nil))))))))))) dss_nil) (dss_one (ds_ret (de_tup (.cons rfl (n_nm 3) (.cons rfl (n_nm 4) .nil))))))))))))))
 exact ⟨_,t.nox,body_ok (N:=N_law_pairs_by) (fun _ _ _ _ z => z) h⟩
theorem sc_law_web:FnScope N_law_web ["_law_tape_here","_law_great"] (defScope (top 16)):=⟨rfl,rfl,rfl,by decide +kernel,rfl,by decide +kernel,by decide +kernel⟩
theorem ok_law_web (F:Fun K "_law_web" "_law_web" (top 16) f fd) (m_range:mg "range" = none) (m_len:mg "len" = none) (m_max:mg "max" = none) (m_min:mg "min" = none) (m_tuple:mg "tuple" = none) (u_law_pairs_by:Cg P w K mg base 2 "_law_pairs_by" (spT ⟨K,cls⟩ 2 fn_law_pairs_by)) (u_law_draw:Cg P w K mg base 1 "_law_draw" (spT ⟨K,cls⟩ 2 fn_law_draw)):FOk P w K mg base CX0 3 f fd ["_law_tape_here","_law_great"] (spT ⟨K,cls⟩ 2 fn_law_web):=by
 refine fo_ok F sc_law_web (fun vs H Q E h => h.1) (fun cdv A outer s H vs Q E hr hq h => ?_)
 have nd:=sc_law_web.nd
 have t:DSs (cxOf CX0 P w K mg base N_law_web "_law_web" (defScope (top 16)) f cdv A outer s H E).nox cls (fun _ => E) (defBody (top 16)) [3,4,3,4,4,2,5,6] g_law_web :=
  (dss_cons (s_asg (u_call (io:=[true,false]) u_law_pairs_by hr hq (.cons rfl (n_nm 0) (.cons rfl (n_nm 1) .nil))) (t_tup rfl (.cons rfl (t_nm 3 nd) (.cons rfl (t_nm 4 nd) .nil)))) (dss_cons (ds_if (n_eq hr (n_nm 4) (de_lst .nil)) (dss_one (s_asg (u_call (io:=[true,false]) u_law_pairs_by hr hq (.cons rfl (n_nm 0) (.cons rfl (n_nm 1) .nil))) (t_tup rfl (.cons rfl (t_nm 3 nd) (.cons rfl (t_nm 4 nd) .nil))))) dss_nil) (dss_cons (ds_if (L2.PW.pt (dw_and (n_ne hr (n_nm 4) (de_lst .nil)) (dw_and1 (n_eq hr (u_call (io:=[true,false]) u_law_draw hr hq (.cons rfl (n_nm 0) (.cons rfl de_int .nil))) de_int)))) (dss_one (s_set 4 nd (n_add (n_nm 4) (n_lc (own:=[("_law_turn",7)]) nd (i_rng1 m_range (n_add de_int (u_call (io:=[true,false]) u_law_draw hr hq (.cons rfl (n_nm 0) (.cons rfl de_int .nil))))) (blkOk_by (N:=N_law_web) (sc:=defScope (top 16)) (by decide +kernel)) (fun _ _ _ _ _ => (t_nm 7 nd)) (fun _ _ _ _ _ => dts_nil) (fun _ _ _ _ _ => (n_ix hr (n_nm 4) (u_call (io:=[true,false]) u_law_draw hr hq (.cons rfl (n_nm 0) (.cons rfl (n_len m_len (n_nm 4)) .nil))))))))) dss_nil) (dss_cons (s_set 2 nd (de_lst .nil)) (dss_cons (s_for (i_seq (n_nm 4)) (t_tup rfl (.cons rfl (t_nm 5 nd) (.cons rfl (t_nm 6 nd) .nil))) (dss_one (s_drop (m_ins 2 (u_call (io:=[true,false]) u_law_draw hr hq (.cons rfl (n_nm 0) (.cons rfl (n_add (n_len m_len (n_nm 2)) de_int) .nil))) (de_tup (.cons rfl (n_min2 rfl m_min (n_nm 5) (n_nm 6)) (.cons rfl (n_max2 rfl m_max (n_nm 5) (n_nm 6)) .nil))))))) (dss_one (ds_ret (de_tup (.cons rfl (n_nm 3) (.cons rfl (n_tuple m_tuple (n_nm 2)) .nil))))))))))
 exact ⟨_,t.nox,body_ok (N:=N_law_web) (fun _ _ _ _ z => z) h⟩
theorem sc_law_drawn:FnScope N_law_drawn ["_law_tape_here","_law_great"] (defScope (top 17)):=⟨rfl,rfl,rfl,by decide +kernel,rfl,by decide +kernel,by decide +kernel⟩
theorem ok_law_drawn (F:Fun K "_law_drawn" "_law_drawn" (top 17) f fd) (m_int:mg "int" = none) (m_list:mg "list" = none) (m_range:mg "range" = none) (m_len:mg "len" = none) (m_max:mg "max" = none) (m_min:mg "min" = none) (m_tuple:mg "tuple" = none) (u_law_draw:Cg P w K mg base 1 "_law_draw" (spT ⟨K,cls⟩ 2 fn_law_draw)) (u_law_web:Cg P w K mg base 3 "_law_web" (spT ⟨K,cls⟩ 2 fn_law_web)):FOk P w K mg base CX0 4 f fd ["_law_tape_here","_law_great"] (spT ⟨K,cls⟩ 2 fn_law_drawn):=by
 refine fo_ok F sc_law_drawn (fun vs H Q E h => h.1) (fun cdv A outer s H vs Q E hr hq h => ?_)
 have nd:=sc_law_drawn.nd
 have t:DSs (cxOf CX0 P w K mg base N_law_drawn "_law_drawn" (defScope (top 17)) f cdv A outer s H E).nox cls (fun _ => E) (defBody (top 17)) [2,3,4,5,6,7,8,9] g_law_drawn :=
  (dss_cons (ds_if (n_gt (u_call (io:=[true,false]) u_law_draw hr hq (.cons rfl (n_nm 0) (.cons rfl de_int .nil))) de_int) (dss_one (ds_ret (u_call (io:=[true,false]) u_law_web hr hq (.cons rfl (n_nm 0) (.cons rfl (n_nm 1) .nil))))) dss_nil) (dss_cons (s_set 2 nd (n_add de_int (u_call (io:=[true,false]) u_law_draw hr hq (.cons rfl (n_nm 0) (.cons rfl (n_add de_int (n_mul de_int (n_int m_int (n_nm 1)))) .nil))))) (dss_cons (s_set 3 nd (n_lr1 rfl m_list m_range (n_add (n_nm 2) de_int))) (dss_cons (s_set 4 nd (de_lst .nil)) (dss_cons (s_while (n_ne hr (n_nm 3) (de_lst .nil)) (dss_one (s_drop (m_app 4 (m_popAt 3 (u_call (io:=[true,false]) u_law_draw hr hq (.cons rfl (n_nm 0) (.cons rfl (n_len m_len (n_nm 3)) .nil)))))))) (dss_cons (s_set 5 nd (n_add (n_lc (own:=[("_law_k",10)]) nd (i_rng1 m_range (n_nm 2)) (blkOk_by (N:=N_law_drawn) (sc:=defScope (top 17)) (by decide +kernel)) (fun _ _ _ _ _ => (t_nm 10 nd)) (fun _ _ _ _ _ => dts_nil) (fun _ _ _ _ _ => (de_tup (.cons rfl (n_nm 10) (.cons rfl (n_mod (n_add (n_nm 10) de_int) (n_nm 2)) .nil))))) (de_lst (.cons rfl (de_tup (.cons rfl (n_nm 2) (.cons rfl (u_call (io:=[true,false]) u_law_draw hr hq (.cons rfl (n_nm 0) (.cons rfl (n_nm 2) .nil))) .nil))) (.cons rfl (de_tup (.cons rfl (n_nm 2) (.cons rfl (n_add (n_nm 2) de_int) .nil))) .nil))))) (dss_cons (s_set 6 nd (de_lst .nil)) (dss_cons (s_for (i_seq (n_nm 5)) (t_tup rfl (.cons rfl (t_nm 7 nd) (.cons rfl (t_nm 8 nd) .nil))) (dss_cons (s_set 9 nd (de_tup (.cons rfl (n_min2 rfl m_min (n_ix hr (n_nm 4) (n_nm 7)) (n_ix hr (n_nm 4) (n_nm 8))) (.cons rfl (n_max2 rfl m_max (n_ix hr (n_nm 4) (n_nm 7)) (n_ix hr (n_nm 4) (n_nm 8))) .nil)))) (dss_one (s_drop (m_ins 6 (u_call (io:=[true,false]) u_law_draw hr hq (.cons rfl (n_nm 0) (.cons rfl (n_add (n_len m_len (n_nm 6)) de_int) .nil))) (n_nm 9)))))) (dss_one (ds_ret (de_tup (.cons rfl (n_add (n_nm 2) de_int) (.cons rfl (n_tuple m_tuple (n_nm 6)) .nil)))))))))))))
 exact ⟨_,t.nox,body_ok (N:=N_law_drawn) (fun _ _ _ _ z => z) h⟩
theorem sc_law_sides:FnScope N_law_sides ["_law_web_here"] (defScope (top 18)):=⟨rfl,rfl,rfl,by decide +kernel,rfl,by decide +kernel,by decide +kernel⟩
theorem ok_law_sides (F:Fun K "_law_sides" "_law_sides" (top 18) f fd) (m_range:mg "range" = none) (m_any:mg "any" = none) :FOk P w K mg base CX0 1 f fd ["_law_web_here"] (spT ⟨K,cls⟩ 1 fn_law_sides):=by
 refine fo_ok F sc_law_sides (fun vs H Q E h => h.1) (fun cdv A outer s H vs Q E hr hq h => ?_)
 have nd:=sc_law_sides.nd
 have t:DSs (cxOf CX0 P w K mg base N_law_sides "_law_sides" (defScope (top 18)) f cdv A outer s H E).nox cls (fun _ => E) (defBody (top 18)) [1,2,3,4,5] g_law_sides :=
  (dss_cons (s_set 1 nd (n_mul (de_lst (.cons rfl de_non .nil)) (n_ix hr (n_nm 0) de_int))) (dss_cons (s_for (i_rng1 m_range (n_ix hr (n_nm 0) de_int)) (t_nm 2 nd) (dss_one (ds_if (n_is (n_ix hr (n_nm 1) (n_nm 2)) de_non) (dss_cons (s_put 1 hr de_int (n_nm 2)) (dss_one (s_for (i_rng1 m_range (n_ix hr (n_nm 0) de_int)) (t_nm 3 nd) (dss_one (s_for (i_seq (n_ix hr (n_nm 0) de_int)) (t_tup rfl (.cons rfl (t_nm 4 nd) (.cons rfl (t_nm 5 nd) .nil))) (dss_cons (ds_if (L2.PW.pt (dw_and (n_isNot (n_ix hr (n_nm 1) (n_nm 4)) de_non) (dw_and1 (n_is (n_ix hr (n_nm 1) (n_nm 5)) de_non)))) (dss_one (s_put 1 hr (n_sub de_int (n_ix hr (n_nm 1) (n_nm 4))) (n_nm 5))) dss_nil) (dss_one (ds_if (L2.PW.pt (dw_and (n_isNot (n_ix hr (n_nm 1) (n_nm 5)) de_non) (dw_and1 (n_is (n_ix hr (n_nm 1) (n_nm 4)) de_non)))) (dss_one (s_put 1 hr (n_sub de_int (n_ix hr (n_nm 1) (n_nm 5))) (n_nm 4))) dss_nil)))))))) dss_nil))) (dss_cons (ds_if (n_tru (n_any rfl m_any (n_lc (own:=[("_law_one",4),("_law_other",5)]) nd (i_seq (n_ix hr (n_nm 0) de_int)) (blkOk_by (N:=N_law_sides) (sc:=defScope (top 18)) (by decide +kernel)) (fun _ _ _ _ _ => (t_tup rfl (.cons rfl (t_nm 4 nd) (.cons rfl (t_nm 5 nd) .nil)))) (fun _ _ _ _ _ => dts_nil) (fun _ _ _ _ _ => (v_eq hr (n_ix hr (n_nm 1) (n_nm 4)) (n_ix hr (n_nm 1) (n_nm 5))))))) (dss_one (ds_ret de_non)) dss_nil) (dss_one (ds_ret (n_nm 1))))))
 exact ⟨_,t.nox,body_ok (N:=N_law_sides) (fun _ _ _ _ z => z) h⟩
theorem sc_law_goes_round:FnScope N_law_goes_round ["_law_web_here","_law_ties","_law_begin"] (defScope (top 19)):=⟨rfl,rfl,rfl,by decide +kernel,rfl,by decide +kernel,by decide +kernel⟩
theorem ok_law_goes_round (F:Fun K "_law_goes_round" "_law_goes_round" (top 19) f fd)  :FOk P w K mg base CX0 1 f fd ["_law_web_here","_law_ties","_law_begin"] (spT ⟨K,cls⟩ 3 fn_law_goes_round):=by
 refine fo_ok F sc_law_goes_round (fun vs H Q E h => h.1) (fun cdv A outer s H vs Q E hr hq h => ?_)
 have nd:=sc_law_goes_round.nd
 have t:DSs (cxOf CX0 P w K mg base N_law_goes_round "_law_goes_round" (defScope (top 19)) f cdv A outer s H E).nox cls (fun _ => E) (defBody (top 19)) [3,4,5,6,7,4] g_law_goes_round :=
  (dss_cons (s_set 3 nd (de_lst .nil)) (dss_cons (s_set 4 nd (n_nm 2)) (dss_cons (s_for (i_seq (n_nm 1)) (t_nm 5 nd) (dss_cons (s_asg (n_ix hr (n_ix hr (n_nm 0) de_int) (n_nm 5)) (t_tup rfl (.cons rfl (t_nm 6 nd) (.cons rfl (t_nm 7 nd) .nil)))) (dss_cons (ds_if (L2.PW.pt (dw_or (n_notIn hr (n_nm 4) (de_tup (.cons rfl (n_nm 6) (.cons rfl (n_nm 7) .nil)))) (dw_or1 (n_in hr (n_nm 4) (n_nm 3))))) (dss_one (ds_ret de_bl)) dss_nil) (dss_cons (s_drop (m_app 3 (n_nm 4))) (dss_one (s_set 4 nd (de_if (n_eq hr (n_nm 4) (n_nm 6)) (n_nm 7) (n_nm 6)))))))) (dss_one (ds_ret (v_eq hr (n_nm 4) (n_nm 2)))))))
 exact ⟨_,t.nox,body_ok (N:=N_law_goes_round) (fun _ _ _ _ z => z) h⟩
theorem sc_law_is_ring:FnScope N_law_is_ring ["_law_web_here","_law_ties"] (defScope (top 20)):=⟨rfl,rfl,rfl,by decide +kernel,rfl,by decide +kernel,by decide +kernel⟩
theorem ok_law_is_ring (F:Fun K "_law_is_ring" "_law_is_ring" (top 20) f fd) (m_len:mg "len" = none) (m_any:mg "any" = none) (u_law_goes_round:Cg P w K mg base 1 "_law_goes_round" (spT ⟨K,cls⟩ 3 fn_law_goes_round)):FOk P w K mg base CX0 2 f fd ["_law_web_here","_law_ties"] (spT ⟨K,cls⟩ 2 fn_law_is_ring):=by
 refine fo_ok F sc_law_is_ring (fun vs H Q E h => h.1) (fun cdv A outer s H vs Q E hr hq h => ?_)
 have nd:=sc_law_is_ring.nd
 have t:DSs (cxOf CX0 P w K mg base N_law_is_ring "_law_is_ring" (defScope (top 20)) f cdv A outer s H E).nox cls (fun _ => E) (defBody (top 20)) [] g_law_is_ring :=
  (dss_cons (ds_if (L2.PW.pt (dw_or (n_lt (n_len m_len (n_nm 1)) de_int) (dw_or1 (n_eq hr (n_mod (n_len m_len (n_nm 1)) de_int) de_int)))) (dss_one (ds_ret de_bl)) dss_nil) (dss_one (ds_ret (n_any rfl m_any (n_lc (own:=[("_law_begin",2)]) nd (i_seq (n_ix hr (n_ix hr (n_nm 0) de_int) (n_ix hr (n_nm 1) de_int))) (blkOk_by (N:=N_law_is_ring) (sc:=defScope (top 20)) (by decide +kernel)) (fun _ _ _ _ _ => (t_nm 2 nd)) (fun _ _ _ _ _ => dts_nil) (fun _ _ _ _ _ => (u_call (io:=[false,false,false]) u_law_goes_round hr hq (.cons rfl (n_nm 0) (.cons rfl (n_nm 1) (.cons rfl (n_nm 2) .nil))))))))))
 exact ⟨_,t.nox,body_ok (N:=N_law_is_ring) (fun _ _ _ _ z => z) h⟩
theorem sc_law_ring_of:FnScope N_law_ring_of ["_law_tape_here","_law_web_here"] (defScope (top 21)):=⟨rfl,rfl,rfl,by decide +kernel,rfl,by decide +kernel,by decide +kernel⟩
theorem ok_law_ring_of (F:Fun K "_law_ring_of" "_law_ring_of" (top 21) f fd) (m_len:mg "len" = none) (m_range:mg "range" = none) (u_law_draw:Cg P w K mg base 1 "_law_draw" (spT ⟨K,cls⟩ 2 fn_law_draw)):FOk P w K mg base CX0 2 f fd ["_law_tape_here","_law_web_here"] (spT ⟨K,cls⟩ 2 fn_law_ring_of):=by
 refine fo_ok F sc_law_ring_of (fun vs H Q E h => h.1) (fun cdv A outer s H vs Q E hr hq h => ?_)
 have nd:=sc_law_ring_of.nd
 have t:DSs (cxOf CX0 P w K mg base N_law_ring_of "_law_ring_of" (defScope (top 21)) f cdv A outer s H E).nox cls (fun _ => E) (defBody (top 21)) [2,4,5,3,6,7,8,9,2] g_law_ring_of :=
  (dss_cons (ds_if (n_eq hr (n_ix hr (n_nm 1) de_int) (de_tup .nil)) (dss_one (ds_ret (de_lst .nil))) dss_nil) (dss_cons (s_set 2 nd (n_ix hr (n_ix hr (n_ix hr (n_nm 1) de_int) (u_call (io:=[true,false]) u_law_draw hr hq (.cons rfl (n_nm 0) (.cons rfl (n_len m_len (n_ix hr (n_nm 1) de_int)) .nil)))) (u_call (io:=[true,false]) u_law_draw hr hq (.cons rfl (n_nm 0) (.cons rfl de_int .nil))))) (dss_cons (s_asg (de_tup (.cons rfl (de_lst (.cons rfl (n_nm 2) .nil)) (.cons rfl (de_lst .nil) .nil))) (t_tup rfl (.cons rfl (t_nm 4 nd) (.cons rfl (t_nm 5 nd) .nil)))) (dss_cons (s_for (i_rng1 m_range (n_ix hr (n_nm 1) de_int)) (t_nm 3 nd) (dss_cons (s_setLc 6 (own:=[("_law_tie",7)]) nd (i_rng1 m_range (n_len m_len (n_ix hr (n_nm 1) de_int))) (blkOk_by (N:=N_law_ring_of) (sc:=defScope (top 21)) (by decide +kernel)) (fun _ _ _ _ _ => (t_nm 7 nd)) (fun _ _ _ _ _ => (dts_one (L2.PW.pt (dw_and (n_in hr (n_nm 2) (n_ix hr (n_ix hr (n_nm 1) de_int) (n_nm 7))) (dw_and1 (n_notIn hr (n_nm 7) (n_nm 5))))))) (fun _ _ _ _ _ => (n_nm 7))) (dss_one (ds_if (n_ne hr (n_nm 6) (de_lst .nil)) (dss_cons (s_set 7 nd (n_ix hr (n_nm 6) (u_call (io:=[true,false]) u_law_draw hr hq (.cons rfl (n_nm 0) (.cons rfl (n_len m_len (n_nm 6)) .nil))))) (dss_cons (s_asg (n_ix hr (n_ix hr (n_nm 1) de_int) (n_nm 7)) (t_tup rfl (.cons rfl (t_nm 8 nd) (.cons rfl (t_nm 9 nd) .nil)))) (dss_cons (s_set 2 nd (de_if (n_eq hr (n_nm 2) (n_nm 8)) (n_nm 9) (n_nm 8))) (dss_cons (s_drop (m_app 5 (n_nm 7))) (dss_cons (ds_if (n_in hr (n_nm 2) (n_nm 4)) (dss_one (ds_ret (de_cutl (n_nm 5) (m_index hr (n_nm 4) (n_nm 2))))) dss_nil) (dss_one (s_drop (m_app 4 (n_nm 2))))))))) dss_nil)))) (dss_one (ds_ret (de_lst .nil)))))))
 exact ⟨_,t.nox,body_ok (N:=N_law_ring_of) (fun _ _ _ _ z => z) h⟩
theorem sc_law_whole:FnScope N_law_whole ["_law_thing"] (defScope (top 22)):=⟨rfl,rfl,rfl,by decide +kernel,rfl,by decide +kernel,by decide +kernel⟩
theorem ok_law_whole (F:Fun K "_law_whole" "_law_whole" (top 22) f fd) (m_isinstance:mg "isinstance" = none) (m_int:mg "int" = none) (m_bool:mg "bool" = none) :FOk P w K mg base CX0 1 f fd ["_law_thing"] (spT ⟨K,cls⟩ 1 fn_law_whole):=by
 refine fo_ok F sc_law_whole (fun vs H Q E h => h.1) (fun cdv A outer s H vs Q E hr hq h => ?_)
 have nd:=sc_law_whole.nd
 have t:DSs (cxOf CX0 P w K mg base N_law_whole "_law_whole" (defScope (top 22)) f cdv A outer s H E).nox cls (fun _ => E) (defBody (top 22)) [] g_law_whole :=
  (dss_one (ds_ret (de_and (n_isi .int m_isinstance m_int (n_nm 0)) (de_one (de_not (n_isi .bool m_isinstance m_bool (n_nm 0)))))))
 exact ⟨_,t.nox,body_ok (N:=N_law_whole) (fun _ _ _ _ z => z) h⟩
theorem sc_law_due:FnScope N_law_due ["_law_web_here","_law_thing"] (defScope (top 23)):=⟨rfl,rfl,rfl,by decide +kernel,rfl,by decide +kernel,by decide +kernel⟩
theorem ok_law_due (F:Fun K "_law_due" "_law_due" (top 23) f fd) (m_isinstance:mg "isinstance" = none) (m_tuple:mg "tuple" = none) (m_len:mg "len" = none) (m_str:mg "str" = none) (m_list:mg "list" = none) (m_all:mg "all" = none) (u_law_whole:Cg P w K mg base 1 "_law_whole" (spT ⟨K,cls⟩ 1 fn_law_whole)) (u_law_sides:Cg P w K mg base 1 "_law_sides" (spT ⟨K,cls⟩ 1 fn_law_sides)) (u_law_is_ring:Cg P w K mg base 2 "_law_is_ring" (spT ⟨K,cls⟩ 2 fn_law_is_ring)):FOk P w K mg base CX0 3 f fd ["_law_web_here","_law_thing"] (spT ⟨K,cls⟩ 2 fn_law_due):=by
 refine fo_ok F sc_law_due (fun vs H Q E h => h.1) (fun cdv A outer s H vs Q E hr hq h => ?_)
 have nd:=sc_law_due.nd
 have t:DSs (cxOf CX0 P w K mg base N_law_due "_law_due" (defScope (top 23)) f cdv A outer s H E).nox cls (fun _ => E) (defBody (top 23)) [] g_law_due :=
  (dss_cons (ds_if (L2.PW.pt (dw_or (dt_not (n_tru (n_isi .tuple m_isinstance m_tuple (n_nm 1)))) (dw_or (n_ne hr (n_len m_len (n_nm 1)) de_int) (dw_or1 (dt_not (n_tru (n_isi .str m_isinstance m_str (n_ix hr (n_nm 1) de_int)))))))) (dss_one (ds_ret de_bl)) dss_nil) (dss_cons (ds_if (L2.PW.pt (dw_or (dt_not (n_tru (n_isi2 .list .tuple m_isinstance m_list m_tuple (n_ix hr (n_nm 1) de_int)))) (dw_or1 (dt_not (n_tru (n_all rfl m_all (n_lc (own:=[("_law_one",2)]) nd (i_seq (n_ix hr (n_nm 1) de_int)) (blkOk_by (N:=N_law_due) (sc:=defScope (top 23)) (by decide +kernel)) (fun _ _ _ _ _ => (t_nm 2 nd)) (fun _ _ _ _ _ => dts_nil) (fun _ _ _ _ _ => (u_call (io:=[false]) u_law_whole hr hq (.cons rfl (n_nm 2) .nil)))))))))) (dss_one (ds_ret de_bl)) dss_nil) (dss_cons (ds_if (n_eq hr (n_ix hr (n_nm 1) de_int) de_str) (dss_one (ds_ret (v_eq hr (n_list m_list (n_ix hr (n_nm 1) de_int)) (u_call (io:=[false]) u_law_sides hr hq (.cons rfl (n_nm 0) .nil))))) dss_nil) (dss_cons (ds_if (L2.PW.pt (dw_or (n_ne hr (n_ix hr (n_nm 1) de_int) de_str) (dw_or1 (dt_not (n_tru (n_all rfl m_all (n_lc (own:=[("_law_tie",3)]) nd (i_seq (n_ix hr (n_nm 1) de_int)) (blkOk_by (N:=N_law_due) (sc:=defScope (top 23)) (by decide +kernel)) (fun _ _ _ _ _ => (t_nm 3 nd)) (fun _ _ _ _ _ => dts_nil) (fun _ _ _ _ _ => (de_chain de_int (.cons op_le (n_nm 3) (.one op_lt (n_len m_len (n_ix hr (n_nm 0) de_int)))) (by with_unfolding_all rfl)))))))))) (dss_one (ds_ret de_bl)) dss_nil) (dss_one (ds_ret (u_call (io:=[false,false]) u_law_is_ring hr hq (.cons rfl (n_nm 0) (.cons rfl (n_ix hr (n_nm 1) de_int) .nil)))))))))
 exact ⟨_,t.nox,body_ok (N:=N_law_due) (fun _ _ _ _ z => z) h⟩
theorem sc_law_odd:FnScope N_law_odd ["_law_tape_here","_law_web_here"] (defScope (top 24)):=⟨rfl,rfl,rfl,by decide +kernel,rfl,by decide +kernel,by decide +kernel⟩
theorem ok_law_odd (F:Fun K "_law_odd" "_law_odd" (top 24) f fd) (m_len:mg "len" = none) (u_law_draw:Cg P w K mg base 1 "_law_draw" (spT ⟨K,cls⟩ 2 fn_law_draw)):FOk P w K mg base CX0 2 f fd ["_law_tape_here","_law_web_here"] (spT ⟨K,cls⟩ 2 fn_law_odd):=by
 refine fo_ok F sc_law_odd (fun vs H Q E h => h.1) (fun cdv A outer s H vs Q E hr hq h => ?_)
 have nd:=sc_law_odd.nd
 have t:DSs (cxOf CX0 P w K mg base N_law_odd "_law_odd" (defScope (top 24)) f cdv A outer s H E).nox cls (fun _ => E) (defBody (top 24)) [2] g_law_odd :=
  (dss_cons (ds_fz 2 (s_set 2 nd (de_lst (.cons rfl de_non (.cons rfl de_bl (.cons rfl de_bl (.cons rfl de_int (.cons rfl de_int (.cons rfl (n_neg de_int) (.cons rfl (n_len m_len (n_ix hr (n_nm 1) de_int)) (.cons rfl de_str (.cons rfl de_str (.cons rfl (de_tup .nil) (.cons rfl (de_lst .nil) (.cons rfl (de_lst (.cons rfl de_int .nil)) (.cons rfl (de_tup (.cons rfl de_int (.cons rfl de_int .nil))) (.cons rfl (de_lst (.cons rfl de_bl .nil)) (.cons rfl (de_lst (.cons rfl de_non .nil)) (.cons rfl (de_lst (.cons rfl de_str .nil)) (.cons rfl (de_lst (.cons rfl (de_lst (.cons rfl de_int .nil)) .nil)) (.cons rfl de_int .nil))))))))))))))))))))) (dss_one (ds_ret (n_ix hr (n_nm 2) (u_call (io:=[true,false]) u_law_draw hr hq (.cons rfl (n_nm 0) (.cons rfl (n_len m_len (n_nm 2)) .nil)))))))
 exact ⟨_,t.nox,body_ok (N:=N_law_odd) (fun _ _ _ _ z => z) h⟩
theorem sc_law_bent:FnScope N_law_bent ["_law_tape_here","_law_web_here","_law_thing"] (defScope (top 25)):=⟨rfl,rfl,rfl,by decide +kernel,rfl,by decide +kernel,by decide +kernel⟩
theorem ok_law_bent (F:Fun K "_law_bent" "_law_bent" (top 25) f fd) (m_len:mg "len" = none) (m_tuple:mg "tuple" = none) (m_list:mg "list" = none) (u_law_draw:Cg P w K mg base 1 "_law_draw" (spT ⟨K,cls⟩ 2 fn_law_draw)) (u_law_odd:Cg P w K mg base 2 "_law_odd" (spT ⟨K,cls⟩ 2 fn_law_odd)):FOk P w K mg base CX0 3 f fd ["_law_tape_here","_law_web_here","_law_thing"] (spT ⟨K,cls⟩ 3 fn_law_bent):=by
 refine fo_ok F sc_law_bent (fun vs H Q E h => h.1) (fun cdv A outer s H vs Q E hr hq h => ?_)
 have nd:=sc_law_bent.nd
 have t:DSs (cxOf CX0 P w K mg base N_law_bent "_law_bent" (defScope (top 25)) f cdv A outer s H E).nox cls (fun _ => E) (defBody (top 25)) [6,7,3,4,5,5,5,5,9,10,8,5,5] g_law_bent :=
  (dss_cons (s_asg (n_nm 2) (t_tup rfl (.cons rfl (t_nm 6 nd) (.cons rfl (t_nm 7 nd) .nil)))) (dss_cons (s_set 3 nd (u_call (io:=[true,false]) u_law_draw hr hq (.cons rfl (n_nm 0) (.cons rfl (n_add (n_len m_len (n_nm 7)) de_int) .nil)))) (dss_cons (s_set 4 nd (u_call (io:=[true,false]) u_law_odd hr hq (.cons rfl (n_nm 0) (.cons rfl (n_nm 1) .nil)))) (dss_cons (ds_fz 5 (s_set 5 nd (de_lst (.cons rfl (de_tup (.cons rfl (n_nm 6) (.cons rfl (n_add (de_cutu (n_nm 7) (n_nm 3)) (de_cutl (n_nm 7) (n_add (n_nm 3) de_int))) .nil))) (.cons rfl (de_tup (.cons rfl (n_nm 6) (.cons rfl (n_add (n_add (de_cutu (n_nm 7) (n_nm 3)) (de_cut3 (n_nm 7) (n_nm 3) (n_add (n_nm 3) de_int))) (de_cutl (n_nm 7) (n_nm 3))) .nil))) (.cons rfl (de_lst (.cons rfl (n_nm 6) (.cons rfl (n_nm 7) .nil))) (.cons rfl (de_tup (.cons rfl (n_nm 6) (.cons rfl (n_nm 4) .nil))) .nil))))))) (dss_cons (ds_fz 5 (s_set 5 nd (n_add (n_nm 5) (n_fz (de_lst (.cons rfl (de_tup (.cons rfl (n_nm 6) (.cons rfl (n_add (n_add (de_cutu (n_nm 7) (n_nm 3)) (de_lst (.cons rfl (n_nm 4) .nil))) (de_cutl (n_nm 7) (n_add (n_nm 3) de_int))) .nil))) (.cons rfl (de_tup (.cons rfl (n_nm 6) (.cons rfl (n_revL (n_nm 7)) .nil))) .nil))))))) (dss_cons (ds_fz 5 (s_set 5 nd (n_add (n_nm 5) (de_lst (.cons rfl (de_tup (.cons rfl (n_ix hr (de_lst (.cons rfl de_str (.cons rfl de_str (.cons rfl de_str (.cons rfl de_non .nil))))) (u_call (io:=[true,false]) u_law_draw hr hq (.cons rfl (n_nm 0) (.cons rfl de_int .nil)))) (.cons rfl (n_nm 7) .nil))) .nil))))) (dss_cons (ds_fz 5 (s_set 5 nd (n_add (n_nm 5) (n_fz (de_lst (.cons rfl (de_tup (.cons rfl (n_nm 6) (.cons rfl (n_nm 7) (.cons rfl (de_tup .nil) .nil)))) (.cons rfl (de_tup (.cons rfl (n_nm 6) .nil)) (.cons rfl (n_nm 4) (.cons rfl (de_tup (.cons rfl (n_nm 6) (.cons rfl (n_tuple m_tuple (n_nm 7)) .nil))) (.cons rfl (de_tup (.cons rfl (n_nm 6) (.cons rfl (n_add (de_cutl (n_nm 7) (n_nm 3)) (de_cutu (n_nm 7) (n_nm 3))) .nil))) .nil)))))))))) (dss_cons (ds_if (n_ne hr (n_nm 7) (de_lst .nil)) (dss_cons (s_par 9 10 nd (.cons rfl (u_call (io:=[true,false]) u_law_draw hr hq (.cons rfl (n_nm 0) (.cons rfl (n_len m_len (n_nm 7)) .nil))) (.cons rfl (u_call (io:=[true,false]) u_law_draw hr hq (.cons rfl (n_nm 0) (.cons rfl (n_len m_len (n_nm 7)) .nil))) .nil))) (dss_cons (s_set 8 nd (n_list m_list (n_nm 7))) (dss_cons (s_put2 8 8 hr (de_tup (.cons rfl (n_ix hr (n_nm 8) (n_nm 10)) (.cons rfl (n_ix hr (n_nm 8) (n_nm 9)) .nil))) (n_nm 9) (n_nm 10)) (dss_cons (ds_fz 5 (s_set 5 nd (n_add (n_nm 5) (n_fz (de_lst (.cons rfl (de_tup (.cons rfl (n_nm 6) (.cons rfl (n_nm 8) .nil))) (.cons rfl (de_tup (.cons rfl (n_nm 6) (.cons rfl (n_add (n_add (de_cutu (n_nm 7) (n_nm 9)) (de_lst (.cons rfl (n_sub de_int (n_ix hr (n_nm 7) (n_nm 9))) .nil))) (de_cutl (n_nm 7) (n_add (n_nm 9) de_int))) .nil))) (.cons rfl (de_tup (.cons rfl (n_nm 6) (.cons rfl (n_lc (own:=[("_law_one",11)]) nd (i_seq (n_nm 7)) (blkOk_by (N:=N_law_bent) (sc:=defScope (top 25)) (by decide +kernel)) (fun _ _ _ _ _ => (t_nm 11 nd)) (fun _ _ _ _ _ => dts_nil) (fun _ _ _ _ _ => (n_sub de_int (n_nm 11)))) .nil))) .nil)))))))) (dss_one (ds_fz 5 (s_set 5 nd (n_add (n_nm 5) (n_fz (de_lst (.cons rfl (de_tup (.cons rfl (n_nm 6) (.cons rfl (n_add (n_add (de_cutu (n_nm 7) (n_nm 9)) (de_lst (.cons rfl (v_eq hr (n_ix hr (n_nm 7) (n_nm 9)) de_int) .nil))) (de_cutl (n_nm 7) (n_add (n_nm 9) de_int))) .nil))) (.cons rfl (de_tup (.cons rfl (n_nm 6) (.cons rfl (n_add (n_add (de_cutu (n_nm 7) (n_nm 9)) (de_lst (.cons rfl (n_add (n_ix hr (n_nm 7) (n_nm 9)) de_int) .nil))) (de_cutl (n_nm 7) (n_add (n_nm 9) de_int))) .nil))) .nil)))))))))))) dss_nil) (dss_one (ds_ret (n_ix hr (n_nm 5) (u_call (io:=[true,false]) u_law_draw hr hq (.cons rfl (n_nm 0) (.cons rfl (n_len m_len (n_nm 5)) .nil))))))))))))))
 exact ⟨_,t.nox,body_ok (N:=N_law_bent) (fun _ _ _ _ z => z) h⟩
theorem sc_law_says:FnScope N_law_says ["_law_web_here","_law_thing"] (defScope (top 26)):=⟨rfl,rfl,rfl,by decide +kernel,rfl,by decide +kernel,by decide +kernel⟩
theorem ok_law_says (F:Fun K "_law_says" "_law_says" (top 26) f fd) (m_str:mg "str" = none) (m_isinstance:mg "isinstance" = none) (m_bool:mg "bool" = none) (u_shows_sides:Cg P w K mg base 6 "shows_sides" (spT ⟨K,cls⟩ 2 fn_shows_sides)) (u_law_due:Cg P w K mg base 3 "_law_due" (spT ⟨K,cls⟩ 2 fn_law_due)):FOk P w K mg base CX0 7 f fd ["_law_web_here","_law_thing"] (spT ⟨K,cls⟩ 2 fn_law_says):=by
 refine fo_ok F sc_law_says (fun vs H Q E h => h.1) (fun cdv A outer s H vs Q E hr hq h => ?_)
 have nd:=sc_law_says.nd
 have t:DSs (cxOf CX0 P w K mg base N_law_says "_law_says" (defScope (top 26)) f cdv A outer s H E).nox cls (fun _ => E) (defBody (top 26)) [2,3] g_law_says :=
  (dss_cons (s_set 2 nd (n_str hr hq m_str (n_nm 1))) (dss_cons (s_set 3 nd (u_call (io:=[false,false]) u_shows_sides hr hq (.cons rfl (n_nm 0) (.cons rfl (n_nm 1) .nil)))) (dss_one (ds_ret (de_and (n_isi .bool m_isinstance m_bool (n_nm 3)) (de_and (v_eq hr (n_nm 3) (u_call (io:=[false,false]) u_law_due hr hq (.cons rfl (n_nm 0) (.cons rfl (n_nm 1) .nil)))) (de_one (v_eqS (n_str hr hq m_str (n_nm 1)) (n_nm 2)))))))))
 exact ⟨_,t.nox,body_ok (N:=N_law_says) (fun _ _ _ _ z => z) h⟩
theorem sc_law:FnScope N_law ["_law_script"] (defScope (top 27)):=⟨rfl,rfl,rfl,by decide +kernel,rfl,by decide +kernel,by decide +kernel⟩
theorem ok_law (F:Fun K "law" "law" (top 27) f fd) (m_len:mg "len" = none) (m_min:mg "min" = none) (m_range:mg "range" = none) (m_all:mg "all" = none) (u_law_tape:Cg P w K mg base 1 "_law_tape" (spT ⟨K,cls⟩ 2 fn_law_tape)) (u_law_draw:Cg P w K mg base 1 "_law_draw" (spT ⟨K,cls⟩ 2 fn_law_draw)) (u_law_drawn:Cg P w K mg base 4 "_law_drawn" (spT ⟨K,cls⟩ 2 fn_law_drawn)) (u_law_sides:Cg P w K mg base 1 "_law_sides" (spT ⟨K,cls⟩ 1 fn_law_sides)) (u_law_ring_of:Cg P w K mg base 2 "_law_ring_of" (spT ⟨K,cls⟩ 2 fn_law_ring_of)) (u_law_says:Cg P w K mg base 7 "_law_says" (spT ⟨K,cls⟩ 2 fn_law_says)) (u_law_bent:Cg P w K mg base 3 "_law_bent" (spT ⟨K,cls⟩ 3 fn_law_bent)):FOk P w K mg base CX0 8 f fd ["_law_script"] (spT ⟨K,cls⟩ 1 fn_law):=by
 refine fo_ok F sc_law (fun vs H Q E h => h.1) (fun cdv A outer s H vs Q E hr hq h => ?_)
 have nd:=sc_law.nd
 have t:DSs (cxOf CX0 P w K mg base N_law "law" (defScope (top 27)) f cdv A outer s H E).nox cls (fun _ => E) (defBody (top 27)) [1,2,3,4,5,6,7,8] g_law :=
  (dss_cons (s_for (i_rng1 m_range (n_add de_int (n_min2 rfl m_min de_int (n_len m_len (n_nm 0))))) (t_nm 1 nd) (dss_cons (s_set 2 nd (u_call (io:=[false,false]) u_law_tape hr hq (.cons rfl (n_nm 0) (.cons rfl (n_nm 1) .nil)))) (dss_cons (s_set 3 nd (u_call (io:=[true,false]) u_law_drawn hr hq (.cons rfl (n_nm 2) (.cons rfl (v_eq hr (u_call (io:=[true,false]) u_law_draw hr hq (.cons rfl (n_nm 2) (.cons rfl de_int .nil))) de_int) .nil)))) (dss_cons (ds_fz 4 (s_set 4 nd (u_call (io:=[false]) u_law_sides hr hq (.cons rfl (n_nm 3) .nil)))) (dss_cons (ds_fz 5 (s_setLc 5 (own:=[("_law_turn",7)]) nd (i_rng1 m_range de_int) (blkOk_by (N:=N_law) (sc:=defScope (top 27)) (by decide +kernel)) (fun _ _ _ _ _ => (t_nm 7 nd)) (fun _ _ _ _ _ => dts_nil) (fun _ _ _ _ _ => (u_call (io:=[true,false]) u_law_ring_of hr hq (.cons rfl (n_nm 2) (.cons rfl (n_nm 3) .nil)))))) (dss_cons (ds_fz 6 (s_set 6 nd (n_add (n_lc (own:=[("_law_ring",9)]) nd (i_seq (n_nm 5)) (blkOk_by (N:=N_law) (sc:=defScope (top 27)) (by decide +kernel)) (fun _ _ _ _ _ => (t_nm 9 nd)) (fun _ _ _ _ _ => dts_nil) (fun _ _ _ _ _ => (de_tup (.cons rfl de_str (.cons rfl (n_nm 9) .nil))))) (n_fz (de_lst (.cons rfl (de_tup (.cons rfl de_str (.cons rfl (de_if (n_isNot (n_nm 4) de_non) (n_nm 4) (n_mul (de_lst (.cons rfl de_int .nil)) (n_ix hr (n_nm 3) de_int))) .nil))) .nil)))))) (dss_cons (ds_if (dt_not (n_tru (n_all rfl m_all (n_lc (own:=[("_law_thing",8)]) nd (i_seq (n_nm 6)) (blkOk_by (N:=N_law) (sc:=defScope (top 27)) (by decide +kernel)) (fun _ _ _ _ _ => (t_nm 8 nd)) (fun _ _ _ _ _ => dts_nil) (fun _ _ _ _ _ => (u_call (io:=[false,false]) u_law_says hr hq (.cons rfl (n_nm 3) (.cons rfl (n_nm 8) .nil)))))))) (dss_one (ds_ret de_bl)) dss_nil) (dss_one (s_for (i_rng1 m_range de_int) (t_nm 7 nd) (dss_cons (s_set 8 nd (n_ix hr (n_nm 6) (n_ix hr (de_lst (.cons rfl (n_mod (n_nm 7) de_int) (.cons rfl de_int .nil))) (u_call (io:=[true,false]) u_law_draw hr hq (.cons rfl (n_nm 2) (.cons rfl de_int .nil)))))) (dss_one (ds_if (dt_not (n_tru (u_call (io:=[false,false]) u_law_says hr hq (.cons rfl (n_nm 3) (.cons rfl (u_call (io:=[true,false,false]) u_law_bent hr hq (.cons rfl (n_nm 2) (.cons rfl (n_nm 3) (.cons rfl (n_nm 8) .nil)))) .nil))))) (dss_one (ds_ret de_bl)) dss_nil)))))))))))) (dss_one (ds_ret (n_all rfl m_all (n_lc (own:=[("_law_thing",8)]) nd (i_seq (n_fz (de_tup (.cons rfl (de_tup (.cons rfl de_str (.cons rfl (de_lst .nil) .nil))) (.cons rfl (de_tup (.cons rfl de_str (.cons rfl (de_tup .nil) .nil))) (.cons rfl (de_tup (.cons rfl de_str (.cons rfl (de_lst .nil) .nil))) (.cons rfl (de_tup (.cons rfl de_str (.cons rfl (de_lst (.cons rfl de_int .nil)) .nil))) .nil))))))) (blkOk_by (N:=N_law) (sc:=defScope (top 27)) (by decide +kernel)) (fun _ _ _ _ _ => (t_nm 8 nd)) (fun _ _ _ _ _ => dts_nil) (fun _ _ _ _ _ => (u_call (io:=[false,false]) u_law_says hr hq (.cons rfl (de_tup (.cons rfl de_int (.cons rfl (de_tup .nil) .nil))) (.cons rfl (n_nm 8) .nil)))))))))
 exact ⟨_,t.nox,body_ok (N:=N_law) (fun _ _ _ _ z => z) h⟩
end
theorem all_mk:MkT (Keeps fn_law):=by
 intro P w K h mg fa f1 f2 f3 f4 f5 f6 f7 f8 f9 f10 f11 f12 f13 f14 f15 f16 f17 f18 f19 f20 f21 f22 f23 f24 f25 f26 C_Going X G hfa od1 an1 od2 an2 od3 an3 od4 an4 od5 an5 od6 an6 od7 an7 od8 an8 od9 an9 od10 an10 od11 an11 od12 an12 od13 an13 od14 an14 od15 an15 od16 an16 od17 an17 od18 an18 od19 an19 od20 an20 od21 an21 od22 an22 od23 an23 od24 an24 od25 an25 od26 an26 sl1 sl2 sl3 sl4 sl5 sl6 sl7 sl8 sl9 sl10 sl11 sl12 sl13 sl14 sl15 sl16 sl17 sl18 sl19 sl20 sl21 sl22 sl23 sl24 sl25 sl26 oc1 kV1 dc1 pm1 cd1 ct1 oc2 kV2 dc2 pm2 cd2 ct2 oc3 kV3 dc3 pm3 cd3 ct3 oc4 kV4 dc4 pm4 cd4 ct4 oc5 kV5 dc5 pm5 cd5 ct5 oc6 kV6 dc6 pm6 cd6 ct6 oc7 kV7 dc7 pm7 cd7 ct7 oc8 kV8 dc8 pm8 cd8 ct8 oc9 kV9 dc9 pm9 cd9 ct9 oc10 kV10 dc10 pm10 cd10 ct10 oc11 kV11 dc11 pm11 cd11 ct11 oc12 kV12 dc12 pm12 cd12 ct12 oc13 kV13 dc13 pm13 cd13 ct13 oc14 kV14 dc14 pm14 cd14 ct14 oc15 kV15 dc15 pm15 cd15 ct15 oc16 kV16 dc16 pm16 cd16 ct16 oc17 kV17 dc17 pm17 cd17 ct17 oc18 kV18 dc18 pm18 cd18 ct18 oc19 kV19 dc19 pm19 cd19 ct19 oc20 kV20 dc20 pm20 cd20 ct20 oc21 kV21 dc21 pm21 cd21 ct21 oc22 kV22 dc22 pm22 cd22 ct22 oc23 kV23 dc23 pm23 cd23 ct23 oc24 kV24 dc24 pm24 cd24 ct24 oc25 kV25 dc25 pm25 cd25 ct25 oc26 kV26 dc26 pm26 cd26 ct26 a1 l1 c1 k1 a2 l2 c2 k2 a3 l3 c3 k3 n3 a4 l4 c4 k4 n4 a5 l5 c5 k5 n5 a6 l6 c6 k6 n6 a7 l7 c7 k7 a8 l8 c8 k8 a9 l9 c9 k9 a10 l10 c10 k10 a11 l11 c11 k11 a12 l12 c12 k12 a13 l13 c13 k13 a14 l14 c14 k14 a15 l15 c15 k15 a16 l16 c16 k16 a17 l17 c17 k17 a18 l18 c18 k18 a19 l19 c19 k19 a20 l20 c20 k20 a21 l21 c21 k21 a22 l22 c22 k22 a23 l23 c23 k23 a24 l24 c24 k24 a25 l25 c25 k25 a26 l26 c26 k26 z_isinstance z_int z_bool z_range z_enumerate z_len z_sum z_list z_tuple z_all z_any z_str z_abs z_min z_max aC_Going oM_Going kC_Going oG_Going dC_Going oP_Going oS_Going oN_Going_web oN_Going_by_place oN_Going_side oN_Going_came k_RING zc_RING k_SIDES zc_SIDES hk
 have e:=hfa.symm.trans (PySem.W.mg_of X G a26)
 cases e
 have F1:=fun_mk (st:=(top 1)) l1 c1 k1
 have b1:=F1.binds (ps:=["thing"]) fun _ _ _ _ _ _ us hl => match us,hl with | [_],_ => rfl
 have F2:=fun_mk (st:=(top 2)) l2 c2 k2
 have b2:=F2.binds (ps:=["web"]) fun _ _ _ _ _ _ us hl => match us,hl with | [_],_ => rfl
 have F3:=fun_mk (st:=(meth 6 0)) l3 c3 k3
 have b3:=F3.binds (ps:=["self","web"]) fun _ _ _ _ _ _ us hl => match us,hl with | [_,_],_ => rfl
 have F4:=fun_mk (st:=(meth 6 1)) l4 c4 k4
 have b4:=F4.binds (ps:=["self","place"]) fun _ _ _ _ _ _ us hl => match us,hl with | [_,_],_ => rfl
 have F5:=fun_mk (st:=(meth 6 2)) l5 c5 k5
 have b5:=F5.binds (ps:=["self","place"]) fun _ _ _ _ _ _ us hl => match us,hl with | [_,_],_ => rfl
 have F6:=fun_mk (st:=(meth 6 3)) l6 c6 k6
 have b6:=F6.binds (ps:=["self","tie"]) fun _ _ _ _ _ _ us hl => match us,hl with | [_,_],_ => rfl
 have F7:=fun_mk (st:=(top 7)) l7 c7 k7
 have b7:=F7.binds (ps:=["web"]) fun _ _ _ _ _ _ us hl => match us,hl with | [_],_ => rfl
 have F8:=fun_mk (st:=(top 8)) l8 c8 k8
 have b8:=F8.binds (ps:=["web","thing"]) fun _ _ _ _ _ _ us hl => match us,hl with | [_,_],_ => rfl
 have F9:=fun_mk (st:=(top 10)) l9 c9 k9
 have b9:=F9.binds (ps:=["web","ties","place"]) fun _ _ _ _ _ _ us hl => match us,hl with | [_,_,_],_ => rfl
 have F10:=fun_mk (st:=(top 9)) l10 c10 k10
 have b10:=F10.binds (ps:=["web","thing"]) fun _ _ _ _ _ _ us hl => match us,hl with | [_,_],_ => rfl
 have F11:=fun_mk (st:=(top 11)) l11 c11 k11
 have b11:=F11.binds (ps:=["web","thing"]) fun _ _ _ _ _ _ us hl => match us,hl with | [_,_],_ => rfl
 have F12:=fun_mk (st:=(top 13)) l12 c12 k12
 have b12:=F12.binds (ps:=["_law_script","_law_k"]) fun _ _ _ _ _ _ us hl => match us,hl with | [_,_],_ => rfl
 have F13:=fun_mk (st:=(top 14)) l13 c13 k13
 have b13:=F13.binds (ps:=["_law_tape_here","_law_many"]) fun _ _ _ _ _ _ us hl => match us,hl with | [_,_],_ => rfl
 have F14:=fun_mk (st:=(top 15)) l14 c14 k14
 have b14:=F14.binds (ps:=["_law_tape_here","_law_great"]) fun _ _ _ _ _ _ us hl => match us,hl with | [_,_],_ => rfl
 have F15:=fun_mk (st:=(top 16)) l15 c15 k15
 have b15:=F15.binds (ps:=["_law_tape_here","_law_great"]) fun _ _ _ _ _ _ us hl => match us,hl with | [_,_],_ => rfl
 have F16:=fun_mk (st:=(top 17)) l16 c16 k16
 have b16:=F16.binds (ps:=["_law_tape_here","_law_great"]) fun _ _ _ _ _ _ us hl => match us,hl with | [_,_],_ => rfl
 have F17:=fun_mk (st:=(top 18)) l17 c17 k17
 have b17:=F17.binds (ps:=["_law_web_here"]) fun _ _ _ _ _ _ us hl => match us,hl with | [_],_ => rfl
 have F18:=fun_mk (st:=(top 19)) l18 c18 k18
 have b18:=F18.binds (ps:=["_law_web_here","_law_ties","_law_begin"]) fun _ _ _ _ _ _ us hl => match us,hl with | [_,_,_],_ => rfl
 have F19:=fun_mk (st:=(top 20)) l19 c19 k19
 have b19:=F19.binds (ps:=["_law_web_here","_law_ties"]) fun _ _ _ _ _ _ us hl => match us,hl with | [_,_],_ => rfl
 have F20:=fun_mk (st:=(top 21)) l20 c20 k20
 have b20:=F20.binds (ps:=["_law_tape_here","_law_web_here"]) fun _ _ _ _ _ _ us hl => match us,hl with | [_,_],_ => rfl
 have F21:=fun_mk (st:=(top 22)) l21 c21 k21
 have b21:=F21.binds (ps:=["_law_thing"]) fun _ _ _ _ _ _ us hl => match us,hl with | [_],_ => rfl
 have F22:=fun_mk (st:=(top 23)) l22 c22 k22
 have b22:=F22.binds (ps:=["_law_web_here","_law_thing"]) fun _ _ _ _ _ _ us hl => match us,hl with | [_,_],_ => rfl
 have F23:=fun_mk (st:=(top 24)) l23 c23 k23
 have b23:=F23.binds (ps:=["_law_tape_here","_law_web_here"]) fun _ _ _ _ _ _ us hl => match us,hl with | [_,_],_ => rfl
 have F24:=fun_mk (st:=(top 25)) l24 c24 k24
 have b24:=F24.binds (ps:=["_law_tape_here","_law_web_here","_law_thing"]) fun _ _ _ _ _ _ us hl => match us,hl with | [_,_,_],_ => rfl
 have F25:=fun_mk (st:=(top 26)) l25 c25 k25
 have b25:=F25.binds (ps:=["_law_web_here","_law_thing"]) fun _ _ _ _ _ _ us hl => match us,hl with | [_,_],_ => rfl
 have F26:=fun_mk (st:=(top 27)) l26 c26 k26
 have b26:=F26.binds (ps:=["_law_script"]) fun _ _ _ _ _ _ us hl => match us,hl with | [_],_ => rfl
 have m_isinstance:=PySem.W.mg_none_of X G z_isinstance
 have m_int:=PySem.W.mg_none_of X G z_int
 have m_bool:=PySem.W.mg_none_of X G z_bool
 have m_range:=PySem.W.mg_none_of X G z_range
 have m_enumerate:=PySem.W.mg_none_of X G z_enumerate
 have m_len:=PySem.W.mg_none_of X G z_len
 have m_sum:=PySem.W.mg_none_of X G z_sum
 have m_list:=PySem.W.mg_none_of X G z_list
 have m_tuple:=PySem.W.mg_none_of X G z_tuple
 have m_all:=PySem.W.mg_none_of X G z_all
 have m_any:=PySem.W.mg_none_of X G z_any
 have m_str:=PySem.W.mg_none_of X G z_str
 have m_abs:=PySem.W.mg_none_of X G z_abs
 have m_min:=PySem.W.mg_none_of X G z_min
 have m_max:=PySem.W.mg_none_of X G z_max
 have c_RING:=PySem.W.mg_of X G zc_RING
 have c_SIDES:=PySem.W.mg_of X G zc_SIDES
 have oc_Going:L2.Cls K ((clsOf [("Going",C_Going)]) "Going"):=⟨oG_Going,dC_Going,oP_Going,oS_Going⟩
 have on_Going_web:L2.NoAttr K ((clsOf [("Going",C_Going)]) "Going") "web":=oN_Going_web
 have on_Going_by_place:L2.NoAttr K ((clsOf [("Going",C_Going)]) "Going") "by_place":=oN_Going_by_place
 have on_Going_side:L2.NoAttr K ((clsOf [("Going",C_Going)]) "Going") "side":=oN_Going_side
 have on_Going_came:L2.NoAttr K ((clsOf [("Going",C_Going)]) "Going") "came":=oN_Going_came
 refine ⟨PySem.W.fnOf "law" "law" (defArgs (top 27)) (defBody (top 27)) (defScope (top 27)) .none kV26 dc26 pm26 an26 cd26 ct26,fun s v => .of_eq rfl,fun base _ _ => law_spF (cls:=(clsOf [("Going",C_Going)])) ?_ hk⟩
 have u_is_number:Cg P w K mg base 1 "is_number" (spT ⟨K,(clsOf [("Going",C_Going)])⟩ 1 fn_is_number):=⟨f1,_,_,ok_is_number F1 m_isinstance m_int m_bool,PySem.W.mg_of X G a1,k1,b1⟩
 have u_ties_by_place:Cg P w K mg base 1 "ties_by_place" (spT ⟨K,(clsOf [("Going",C_Going)])⟩ 1 fn_ties_by_place):=⟨f2,_,_,ok_ties_by_place F2 m_range m_enumerate,PySem.W.mg_of X G a2,k2,b2⟩
 have u_Going_go_from:CgM P w K mg base 1 ((clsOf [("Going",C_Going)]) "Going") "go_from" (spT ⟨K,(clsOf [("Going",C_Going)])⟩ 2 fn_Going_go_from):=⟨f4,_,_,ok_Going_go_from F4 m_len m_sum oc_Going on_Going_side on_Going_by_place on_Going_web on_Going_came,⟨a4,n4,k4⟩,b4⟩
 have u_Going_way_to:CgM P w K mg base 1 ((clsOf [("Going",C_Going)]) "Going") "way_to" (spT ⟨K,(clsOf [("Going",C_Going)])⟩ 2 fn_Going_way_to):=⟨f5,_,_,ok_Going_way_to F5 oc_Going on_Going_came,⟨a5,n5,k5⟩,b5⟩
 have u_goes_round:Cg P w K mg base 1 "goes_round" (spT ⟨K,(clsOf [("Going",C_Going)])⟩ 3 fn_goes_round):=⟨f9,_,_,ok_goes_round F9 m_sum,PySem.W.mg_of X G a9,k9,b9⟩
 have u_law_tape:Cg P w K mg base 1 "_law_tape" (spT ⟨K,(clsOf [("Going",C_Going)])⟩ 2 fn_law_tape):=⟨f12,_,_,ok_law_tape F12 m_len m_abs m_int,PySem.W.mg_of X G a12,k12,b12⟩
 have u_law_draw:Cg P w K mg base 1 "_law_draw" (spT ⟨K,(clsOf [("Going",C_Going)])⟩ 2 fn_law_draw):=⟨f13,_,_,ok_law_draw F13 ,PySem.W.mg_of X G a13,k13,b13⟩
 have u_law_sides:Cg P w K mg base 1 "_law_sides" (spT ⟨K,(clsOf [("Going",C_Going)])⟩ 1 fn_law_sides):=⟨f17,_,_,ok_law_sides F17 m_range m_any,PySem.W.mg_of X G a17,k17,b17⟩
 have u_law_goes_round:Cg P w K mg base 1 "_law_goes_round" (spT ⟨K,(clsOf [("Going",C_Going)])⟩ 3 fn_law_goes_round):=⟨f18,_,_,ok_law_goes_round F18 ,PySem.W.mg_of X G a18,k18,b18⟩
 have u_law_whole:Cg P w K mg base 1 "_law_whole" (spT ⟨K,(clsOf [("Going",C_Going)])⟩ 1 fn_law_whole):=⟨f21,_,_,ok_law_whole F21 m_isinstance m_int m_bool,PySem.W.mg_of X G a21,k21,b21⟩
 have u_Going___init:CgI P w K mg base 2 "Going" ((clsOf [("Going",C_Going)]) "Going") (spT ⟨K,(clsOf [("Going",C_Going)])⟩ 2 fn_Going___init):=⟨f3,_,_,ok_Going___init F3 u_ties_by_place oc_Going on_Going_web on_Going_by_place on_Going_side on_Going_came,⟨oM_Going,a3,n3,kC_Going⟩,b3,PySem.W.mg_of X G aC_Going⟩
 have u_Going_ring_by:CgM P w K mg base 2 ((clsOf [("Going",C_Going)]) "Going") "ring_by" (spT ⟨K,(clsOf [("Going",C_Going)])⟩ 2 fn_Going_ring_by):=⟨f6,_,_,ok_Going_ring_by F6 u_Going_way_to oc_Going on_Going_web,⟨a6,n6,k6⟩,b6⟩
 have u_is_ring:Cg P w K mg base 2 "is_ring" (spT ⟨K,(clsOf [("Going",C_Going)])⟩ 2 fn_is_ring):=⟨f10,_,_,ok_is_ring F10 m_isinstance m_list m_tuple m_len m_all m_any u_is_number u_goes_round,PySem.W.mg_of X G a10,k10,b10⟩
 have u_law_pairs_by:Cg P w K mg base 2 "_law_pairs_by" (spT ⟨K,(clsOf [("Going",C_Going)])⟩ 2 fn_law_pairs_by):=⟨f14,_,_,ok_law_pairs_by F14 m_int m_range m_min u_law_draw,PySem.W.mg_of X G a14,k14,b14⟩
 have u_law_is_ring:Cg P w K mg base 2 "_law_is_ring" (spT ⟨K,(clsOf [("Going",C_Going)])⟩ 2 fn_law_is_ring):=⟨f19,_,_,ok_law_is_ring F19 m_len m_any u_law_goes_round,PySem.W.mg_of X G a19,k19,b19⟩
 have u_law_ring_of:Cg P w K mg base 2 "_law_ring_of" (spT ⟨K,(clsOf [("Going",C_Going)])⟩ 2 fn_law_ring_of):=⟨f20,_,_,ok_law_ring_of F20 m_len m_range u_law_draw,PySem.W.mg_of X G a20,k20,b20⟩
 have u_law_odd:Cg P w K mg base 2 "_law_odd" (spT ⟨K,(clsOf [("Going",C_Going)])⟩ 2 fn_law_odd):=⟨f23,_,_,ok_law_odd F23 m_len u_law_draw,PySem.W.mg_of X G a23,k23,b23⟩
 have u_law_web:Cg P w K mg base 3 "_law_web" (spT ⟨K,(clsOf [("Going",C_Going)])⟩ 2 fn_law_web):=⟨f15,_,_,ok_law_web F15 m_range m_len m_max m_min m_tuple u_law_pairs_by u_law_draw,PySem.W.mg_of X G a15,k15,b15⟩
 have u_law_due:Cg P w K mg base 3 "_law_due" (spT ⟨K,(clsOf [("Going",C_Going)])⟩ 2 fn_law_due):=⟨f22,_,_,ok_law_due F22 m_isinstance m_tuple m_len m_str m_list m_all u_law_whole u_law_sides u_law_is_ring,PySem.W.mg_of X G a22,k22,b22⟩
 have u_law_bent:Cg P w K mg base 3 "_law_bent" (spT ⟨K,(clsOf [("Going",C_Going)])⟩ 3 fn_law_bent):=⟨f24,_,_,ok_law_bent F24 m_len m_tuple m_list u_law_draw u_law_odd,PySem.W.mg_of X G a24,k24,b24⟩
 have u_two_sides:Cg P w K mg base 4 "two_sides" (spT ⟨K,(clsOf [("Going",C_Going)])⟩ 1 fn_two_sides):=⟨f7,_,_,ok_two_sides F7 m_range c_RING c_SIDES u_Going___init u_Going_go_from u_Going_ring_by oc_Going on_Going_side,PySem.W.mg_of X G a7,k7,b7⟩
 have u_law_drawn:Cg P w K mg base 4 "_law_drawn" (spT ⟨K,(clsOf [("Going",C_Going)])⟩ 2 fn_law_drawn):=⟨f16,_,_,ok_law_drawn F16 m_int m_list m_range m_len m_max m_min m_tuple u_law_draw u_law_web,PySem.W.mg_of X G a16,k16,b16⟩
 have u_are_sides:Cg P w K mg base 5 "are_sides" (spT ⟨K,(clsOf [("Going",C_Going)])⟩ 2 fn_are_sides):=⟨f8,_,_,ok_are_sides F8 m_isinstance m_list m_tuple m_len m_all c_SIDES u_is_number u_two_sides,PySem.W.mg_of X G a8,k8,b8⟩
 have u_shows_sides:Cg P w K mg base 6 "shows_sides" (spT ⟨K,(clsOf [("Going",C_Going)])⟩ 2 fn_shows_sides):=⟨f11,_,_,ok_shows_sides F11 m_isinstance m_tuple m_len m_str c_SIDES c_RING u_are_sides u_is_ring,PySem.W.mg_of X G a11,k11,b11⟩
 have u_law_says:Cg P w K mg base 7 "_law_says" (spT ⟨K,(clsOf [("Going",C_Going)])⟩ 2 fn_law_says):=⟨f25,_,_,ok_law_says F25 m_str m_isinstance m_bool u_shows_sides u_law_due,PySem.W.mg_of X G a25,k25,b25⟩
 exact ok_law (cls:=(clsOf [("Going",C_Going)])) F26 m_len m_min m_range m_all u_law_tape u_law_draw u_law_drawn u_law_sides u_law_ring_of u_law_says u_law_bent
end G
end Hu
theorem PySem.Challenge.cw_huedties_k06_sides_shown_holds : PySem.Challenge.rw_huedties_k06_sides_shown.Holds := by
 exact Hu.headT Hu.G.keeps @Hu.G.all_mk
