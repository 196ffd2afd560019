/- CircFirst: a part of the proof of the given statement, which is proved without conditions. -/
import Derived.Test.YtdahfgialanmpaaGreatDoorT5
import Derived.KernelRfl
import Derived.Test.YtdahfgialanmpaaGreatDoorProg
import Derived.Laws.BitsLemmas
set_option linter.all false
namespace Go.Proofs.YtdahfgialanmpaaGreatDoor
set_option maxRecDepth 100000
open Ev
open Go (IntKind)
open Go
noncomputable abbrev ZP:=Tryz.prog
theorem zafd:fnB ZP 19 Tryz.f19 [4,9,14]=true:=by kernel_rfl
theorem zaep:CG ZP sg @zaoe:=cg0
theorem zatu:zaf ZP sg 0 Tryz.f19 @zi9 4:=zas z68 good Tryz.func19 zafd zaep zaa (fun a=>by kernel_rfl) (by kernel_rfl) (fun _ _=>rfl)
theorem zatv:zaf ZP sg 0 Tryz.f19 @zi9 9:=zas z69 good Tryz.func19 zafd zaep zaa (fun a=>by kernel_rfl) (by kernel_rfl) (fun _ _=>rfl)
theorem zaf1:zaf ZP sg 0 Tryz.f19 @zi9 14:=zas zxq good Tryz.func19 zafd zaep zaa (fun a=>by kernel_rfl) (by kernel_rfl) (fun _ _=>rfl)
theorem za0r:SG ZP sg 19 @za34:=conD (loops:=zi9) good Tryz.func19 zafd (by kernel_rfl) zaep (all_cons zatu (all_cons zatv (all_cons zaf1 zaa))) (fun a=>by kernel_rfl)
theorem zuj:SG ZP sg 258 @zv7:=conE good Tryz.func258 (by kernel_rfl) (by kernel_rfl) cg0 (fun a=>by kernel_rfl)
theorem zaku:fnB ZP 174 Tryz.f174 [2]=true:=by kernel_rfl
theorem zajc:CG ZP sg @zadw:=(cgc zuj cg0)
theorem zagb:zaf ZP sg 0 Tryz.f174 @zsn 2:=zas zx1 good Tryz.func174 zaku zajc zaa (fun a=>by kernel_rfl) (by kernel_rfl) (fun _ _=>rfl)
theorem z4v:SG ZP sg 174 @zv3:=conD (loops:=zsn) good Tryz.func174 zaku (by kernel_rfl) zajc (all_cons zagb zaa) (fun a=>by kernel_rfl)
theorem za0w:SG ZP sg 259 @zano:=conE good Tryz.func259 (by kernel_rfl) (by kernel_rfl) (cgc zuj cg0) (fun a=>by kernel_rfl)
theorem zaps:SG ZP sg 260 @z99:=conE good Tryz.func260 (by kernel_rfl) (by kernel_rfl) cg0 (fun a=>by kernel_rfl)
theorem zakv:fnB ZP 175 Tryz.f175 [4]=true:=by kernel_rfl
theorem zai6:CG ZP sg @zadj:=(cgc zuj (cgc za0w (cgc zaps cg0)))
theorem zafy:zaf ZP sg 0 Tryz.f175 @zsh 4:=zas zxn good Tryz.func175 zakv zai6 zaa (fun a=>by kernel_rfl) (by kernel_rfl) (fun _ _=>rfl)
theorem zapi:SG ZP sg 175 @z94:=conD (loops:=zsh) good Tryz.func175 zakv (by kernel_rfl) zai6 (all_cons zafy zaa) (fun a=>by kernel_rfl)
theorem za1o:fnB ZP 68 Tryz.f68 [4]=true:=by kernel_rfl
theorem zajh:CG ZP sg @zad1:=(cgc z4v (cgc zapi cg0))
theorem zagg:zaf ZP sg 0 Tryz.f68 @zss 4:=zas zx6 good Tryz.func68 za1o zajh zaa (fun a=>by kernel_rfl) (by kernel_rfl) (fun _ _=>rfl)
theorem zapx:SG ZP sg 68 @zaad:=conD (loops:=zss) good Tryz.func68 za1o (by kernel_rfl) zajh (all_cons zagg zaa) (fun a=>by kernel_rfl)
theorem za1p:fnB ZP 69 Tryz.f69 [4]=true:=by kernel_rfl
theorem zajg:CG ZP sg @zad0:=cg0
theorem zagf:zaf ZP sg 0 Tryz.f69 @zsr 4:=zas zx5 good Tryz.func69 za1p zajg zaa (fun a=>by kernel_rfl) (by kernel_rfl) (fun _ _=>rfl)
theorem zapw:SG ZP sg 69 @zaac:=conD (loops:=zsr) good Tryz.func69 za1p (by kernel_rfl) zajg (all_cons zagf zaa) (fun a=>by kernel_rfl)
theorem z5e:SG ZP sg 261 @zaax:=conE good Tryz.func261 (by kernel_rfl) (by kernel_rfl) cg0 (fun a=>by kernel_rfl)
theorem z5u:SG ZP sg 262 @zabt:=conE good Tryz.func262 (by kernel_rfl) (by kernel_rfl) cg0 (fun a=>by kernel_rfl)
theorem zaqx:SG ZP sg 176 @zabc:=conE good Tryz.func176 (by kernel_rfl) (by kernel_rfl) (cgc z5e (cgc z5u cg0)) (fun a=>by kernel_rfl)
theorem zafh:fnB ZP 70 Tryz.f70 [4,12,15]=true:=by kernel_rfl
theorem zaer:CG ZP sg @zaop:=(cgc zaqx cg0)
theorem zat7:zaf ZP sg 0 Tryz.f70 @zjb 4:=zas z7n good Tryz.func70 zafh zaer zaa (fun a=>by kernel_rfl) (by kernel_rfl) (fun _ _=>rfl)
theorem zza:zaf ZP sg 0 Tryz.f70 @zjb 15:=zas zy2 good Tryz.func70 zafh zaer zaa (fun a=>by kernel_rfl) (by kernel_rfl) (fun _ _=>rfl)
theorem zahb:zaf ZP sg 0 Tryz.f70 @zjb 12:=zas zy1 good Tryz.func70 zafh zaer (all_cons zza zaa) (fun a=>by kernel_rfl) (by kernel_rfl) (fun _ _=>rfl)
theorem za01:SG ZP sg 70 @zans:=conD (loops:=zjb) good Tryz.func70 zafh (by kernel_rfl) zaer (all_cons zat7 (all_cons zahb (all_cons zza zaa))) (fun a=>by kernel_rfl)
theorem z52:SG ZP sg 177 @zabz:=conE good Tryz.func177 (by kernel_rfl) (by kernel_rfl) cg0 (fun a=>by kernel_rfl)
theorem za1q:fnB ZP 71 Tryz.f71 [4]=true:=by kernel_rfl
theorem zaje:CG ZP sg @zady:=(cgc z52 cg0)
theorem zagd:zaf ZP sg 0 Tryz.f71 @zsp 4:=zas zx3 good Tryz.func71 za1q zaje zaa (fun a=>by kernel_rfl) (by kernel_rfl) (fun _ _=>rfl)
theorem z4x:SG ZP sg 71 @zv4:=conD (loops:=zsp) good Tryz.func71 za1q (by kernel_rfl) zaje (all_cons zagd zaa) (fun a=>by kernel_rfl)
theorem zap9:SG ZP sg 263 @zawi:=conE good Tryz.func263 (by kernel_rfl) (by kernel_rfl) cg0 (fun a=>by kernel_rfl)
theorem zaqm:SG ZP sg 178 @zaau:=conE good Tryz.func178 (by kernel_rfl) (by kernel_rfl) (cgc zap9 cg0) (fun a=>by kernel_rfl)
theorem zas9:fnB ZP 72 Tryz.f72 [4,9]=true:=by kernel_rfl
theorem zao3:CG ZP sg @zaon:=(cgc zaqm cg0)
theorem z8g:zaf ZP sg 0 Tryz.f72 @zp3 9:=zas z7l good Tryz.func72 zas9 zao3 zaa (fun a=>by kernel_rfl) (by kernel_rfl) (fun _ _=>rfl)
theorem zat5:zaf ZP sg 0 Tryz.f72 @zp3 4:=zas z7k good Tryz.func72 zas9 zao3 (all_cons z8g zaa) (fun a=>by kernel_rfl) (by kernel_rfl) (fun _ _=>rfl)
theorem za0z:SG ZP sg 72 @zanr:=conD (loops:=zp3) good Tryz.func72 zas9 (by kernel_rfl) zao3 (all_cons zat5 (all_cons z8g zaa)) (fun a=>by kernel_rfl)
theorem zata:fnB ZP 73 Tryz.f73 [6,11]=true:=by kernel_rfl
theorem zao5:CG ZP sg @zaov:=cg0
theorem zaue:zaf ZP sg 0 Tryz.f73 @zp5 6:=zas z7w good Tryz.func73 zata zao5 zaa (fun a=>by kernel_rfl) (by kernel_rfl) (fun _ _=>rfl)
theorem zahg:zaf ZP sg 0 Tryz.f73 @zp5 11:=zas zy7 good Tryz.func73 zata zao5 zaa (fun a=>by kernel_rfl) (by kernel_rfl) (fun _ _=>rfl)
theorem zaka:SG ZP sg 73 @zanu:=conD (loops:=zp5) good Tryz.func73 zata (by kernel_rfl) zao5 (all_cons zaue (all_cons zahg zaa)) (fun a=>by kernel_rfl)
theorem zakw:fnB ZP 179 Tryz.f179 [2]=true:=by kernel_rfl
theorem zai1:CG ZP sg @zade:=cg0
theorem zaft:zaf ZP sg 0 Tryz.f179 @zsc 2:=zas zxi good Tryz.func179 zakw zai1 zaa (fun a=>by kernel_rfl) (by kernel_rfl) (fun _ _=>rfl)
theorem zape:SG ZP sg 179 @zavo:=conD (loops:=zsc) good Tryz.func179 zakw (by kernel_rfl) zai1 (all_cons zaft zaa) (fun a=>by kernel_rfl)
theorem zo9:SG ZP sg 74 @zqg:=conE good Tryz.func74 (by kernel_rfl) (by kernel_rfl) (cgc zape cg0) (fun a=>by kernel_rfl)
theorem zaqy:SG ZP sg 85 @zabd:=conE good Tryz.func85 (by kernel_rfl) (by kernel_rfl) cg0 (fun a=>by kernel_rfl)
theorem zasq:SG ZP sg 306 @zayj:=conE good Tryz.func306 (by kernel_rfl) (by kernel_rfl) cg0 (fun a=>by kernel_rfl)
theorem zaqz:SG ZP sg 275 @zaxa:=conE good Tryz.func275 (by kernel_rfl) (by kernel_rfl) (cgc zasq cg0) (fun a=>by kernel_rfl)
theorem zarg:SG ZP sg 276 @zaxp:=conE good Tryz.func276 (by kernel_rfl) (by kernel_rfl) cg0 (fun a=>by kernel_rfl)
theorem zara:SG ZP sg 307 @zabr:=conE good Tryz.func307 (by kernel_rfl) (by kernel_rfl) cg0 (fun a=>by kernel_rfl)
theorem zalb:fnB ZP 277 Tryz.f277 [3]=true:=by kernel_rfl
theorem zajf:CG ZP sg @zadz:=(cgc zara cg0)
theorem zage:zaf ZP sg 0 Tryz.f277 @zsq 3:=zas zx4 good Tryz.func277 zalb zajf zaa (fun a=>by kernel_rfl) (by kernel_rfl) (fun _ _=>rfl)
theorem zapv:SG ZP sg 277 @zav3:=conD (loops:=zsq) good Tryz.func277 zalb (by kernel_rfl) zajf (all_cons zage zaa) (fun a=>by kernel_rfl)
theorem zarb:SG ZP sg 278 @zaxe:=conE good Tryz.func278 (by kernel_rfl) (by kernel_rfl) cg0 (fun a=>by kernel_rfl)
theorem zasx:SG ZP sg 279 @zayq:=conE good Tryz.func279 (by kernel_rfl) (by kernel_rfl) cg0 (fun a=>by kernel_rfl)
theorem z5h:SG ZP sg 200 @zwa:=conE good Tryz.func200 (by kernel_rfl) (by kernel_rfl) (cgc zaqz (cgc zarg (cgc zapv (cgc zarb (cgc zasx cg0))))) (fun a=>by kernel_rfl)
theorem zakx:fnB ZP 180 Tryz.f180 [5]=true:=by kernel_rfl
theorem zajd:CG ZP sg @zadx:=(cgc zaqy (cgc z5h cg0))
theorem zagc:zaf ZP sg 0 Tryz.f180 @zso 5:=zas zx2 good Tryz.func180 zakx zajd zaa (fun a=>by kernel_rfl) (by kernel_rfl) (fun _ _=>rfl)
theorem zapu:SG ZP sg 180 @zaab:=conD (loops:=zso) good Tryz.func180 zakx (by kernel_rfl) zajd (all_cons zagc zaa) (fun a=>by kernel_rfl)
theorem za1r:fnB ZP 84 Tryz.f84 [2]=true:=by kernel_rfl
theorem za0j:CG ZP sg @zaol:=cg0
theorem zat3:zaf ZP sg 0 Tryz.f84 @zzh 2:=zas z7i good Tryz.func84 za1r za0j zaa (fun a=>by kernel_rfl) (by kernel_rfl) (fun _ _=>rfl)
theorem zg2:SG ZP sg 84 @ztw:=conD (loops:=zzh) good Tryz.func84 za1r (by kernel_rfl) za0j (all_cons zat3 zaa) (fun a=>by kernel_rfl)
theorem zatb:fnB ZP 75 Tryz.f75 [4,15]=true:=by kernel_rfl
theorem z4g:CG ZP sg @zado:=(cgc zg2 (cgc z4v (cgc zapu cg0)))
theorem zaf4:zaf ZP sg 0 Tryz.f75 @zkw 4:=zas zxu good Tryz.func75 zatb z4g zaa (fun a=>by kernel_rfl) (by kernel_rfl) (fun _ _=>rfl)
theorem z79:zaf ZP sg 0 Tryz.f75 @zkw 15:=zas zr0 good Tryz.func75 zatb z4g zaa (fun a=>by kernel_rfl) (by kernel_rfl) (fun _ _=>rfl)
theorem zapm:SG ZP sg 75 @z97:=conD (loops:=zkw) good Tryz.func75 zatb (by kernel_rfl) z4g (all_cons zaf4 (all_cons z79 zaa)) (fun a=>by kernel_rfl)
theorem z5w:SG ZP sg 111 @zabu:=conE good Tryz.func111 (by kernel_rfl) (by kernel_rfl) cg0 (fun a=>by kernel_rfl)
theorem zakz:fnB ZP 201 Tryz.f201 [2]=true:=by kernel_rfl
theorem zaja:CG ZP sg @zadu:=cg0
theorem zaf9:zaf ZP sg 0 Tryz.f201 @zsl 2:=zas zxz good Tryz.func201 zakz zaja zaa (fun a=>by kernel_rfl) (by kernel_rfl) (fun _ _=>rfl)
theorem z4t:SG ZP sg 201 @zav0:=conD (loops:=zsl) good Tryz.func201 zakz (by kernel_rfl) zaja (all_cons zaf9 zaa) (fun a=>by kernel_rfl)
theorem zaq1:SG ZP sg 122 @zabe:=conE good Tryz.func122 (by kernel_rfl) (by kernel_rfl) (cgc z4t cg0) (fun a=>by kernel_rfl)
theorem zatc:fnB ZP 76 Tryz.f76 [2,10]=true:=by kernel_rfl
theorem z4f:CG ZP sg @zadn:=(cgc zo9 (cgc zg2 (cgc z5w (cgc zaq1 cg0))))
theorem zaf3:zaf ZP sg 0 Tryz.f76 @zkv 2:=zas zxt good Tryz.func76 zatc z4f zaa (fun a=>by kernel_rfl) (by kernel_rfl) (fun _ _=>rfl)
theorem z78:zaf ZP sg 0 Tryz.f76 @zkv 10:=zas zrz good Tryz.func76 zatc z4f zaa (fun a=>by kernel_rfl) (by kernel_rfl) (fun _ _=>rfl)
theorem zapl:SG ZP sg 76 @z96:=conD (loops:=zkv) good Tryz.func76 zatc (by kernel_rfl) z4f (all_cons zaf3 (all_cons z78 zaa)) (fun a=>by kernel_rfl)
theorem zakh:fnB ZP 105 Tryz.f105 [2]=true:=by kernel_rfl
theorem zajb:CG ZP sg @zadv:=cg0
theorem zaga:zaf ZP sg 0 Tryz.f105 @zsm 2:=zas zx0 good Tryz.func105 zakh zajb zaa (fun a=>by kernel_rfl) (by kernel_rfl) (fun _ _=>rfl)
theorem z4u:SG ZP sg 105 @zaaa:=conD (loops:=zsm) good Tryz.func105 zakh (by kernel_rfl) zajb (all_cons zaga zaa) (fun a=>by kernel_rfl)
theorem zatd:fnB ZP 77 Tryz.f77 [2,18]=true:=by kernel_rfl
theorem z4h:CG ZP sg @zadp:=(cgc zo9 (cgc zg2 (cgc z4u cg0)))
theorem zaf5:zaf ZP sg 0 Tryz.f77 @zkx 2:=zas zxv good Tryz.func77 zatd z4h zaa (fun a=>by kernel_rfl) (by kernel_rfl) (fun _ _=>rfl)
theorem z8a:zaf ZP sg 0 Tryz.f77 @zkx 18:=zas zr1 good Tryz.func77 zatd z4h zaa (fun a=>by kernel_rfl) (by kernel_rfl) (fun _ _=>rfl)
theorem zapn:SG ZP sg 77 @z98:=conD (loops:=zkx) good Tryz.func77 zatd (by kernel_rfl) z4h (all_cons zaf5 (all_cons z8a zaa)) (fun a=>by kernel_rfl)
theorem zas6:fnB ZP 21 Tryz.f21 [6,11]=true:=by kernel_rfl
theorem z4k:CG ZP sg @zadt:=(cgc zapx (cgc zapw (cgc za01 (cgc z4x (cgc za0z (cgc zaka (cgc zo9 (cgc zapm (cgc zapl (cgc zapn cg0))))))))))
theorem zaf8:zaf ZP sg 0 Tryz.f21 @zk0 6:=zas zxy good Tryz.func21 zas6 z4k zaa (fun a=>by kernel_rfl) (by kernel_rfl) (fun _ _=>rfl)
theorem z8e:zaf ZP sg 0 Tryz.f21 @zk0 11:=zas zr5 good Tryz.func21 zas6 z4k zaa (fun a=>by kernel_rfl) (by kernel_rfl) (fun _ _=>rfl)
theorem zapr:SG ZP sg 21 @zavz:=conD (loops:=zk0) good Tryz.func21 zas6 (by kernel_rfl) z4k (all_cons zaf8 (all_cons z8e zaa)) (fun a=>by kernel_rfl)
theorem z57:SG ZP sg 22 @zab5:=conE good Tryz.func22 (by kernel_rfl) (by kernel_rfl) (cgc za0r (cgc zapr cg0)) (fun a=>by kernel_rfl)
theorem zar0:SG ZP sg 17 @zax0:=conE good Tryz.func17 (by kernel_rfl) (by kernel_rfl) cg0 (fun a=>by kernel_rfl)
theorem zaq8:SG ZP sg 181 @zabp:=conE good Tryz.func181 (by kernel_rfl) (by kernel_rfl) cg0 (fun a=>by kernel_rfl)
theorem z04:fnB ZP 80 Tryz.f80 [2]=true:=by kernel_rfl
theorem za0h:CG ZP sg @zaoi:=(cgc zaq8 cg0)
theorem zatz:zaf ZP sg 0 Tryz.f80 @zzf 2:=zas z7e good Tryz.func80 z04 za0h zaa (fun a=>by kernel_rfl) (by kernel_rfl) (fun _ _=>rfl)
theorem za0v:SG ZP sg 80 @za37:=conD (loops:=zzf) good Tryz.func80 z04 (by kernel_rfl) za0h (all_cons zatz zaa) (fun a=>by kernel_rfl)
theorem zgl:SG ZP sg 78 @zl4:=conE good Tryz.func78 (by kernel_rfl) (by kernel_rfl) (cgc za0v cg0) (fun a=>by kernel_rfl)
theorem z54:SG ZP sg 79 @zab2:=conE good Tryz.func79 (by kernel_rfl) (by kernel_rfl) cg0 (fun a=>by kernel_rfl)
theorem zaq4:SG ZP sg 81 @zabj:=conE good Tryz.func81 (by kernel_rfl) (by kernel_rfl) cg0 (fun a=>by kernel_rfl)
theorem zw5:CG ZP sg @z0h:=(cgc zaq4 cg0)
theorem z1n:zaf ZP sg 0 Tryz.f80 @zk5 2:=zas znr good Tryz.func80 z04 zw5 zaa (fun a=>by kernel_rfl) (by kernel_rfl) (fun _ _=>rfl)
theorem z50:SG ZP sg 80 @zaby:=conD (loops:=zk5) good Tryz.func80 z04 (by kernel_rfl) zw5 (all_cons z1n zaa) (fun a=>by kernel_rfl)
theorem z5i:SG ZP sg 83 @zaw5:=conS (loops:=l0) (ids:=[]) good Tryz.func83 (by kernel_rfl) (by kernel_rfl) cg0 zaa (fun a=>by kernel_rfl) (by kernel_rfl)
theorem zo8:SG ZP sg 62 @zaa0:=conE good Tryz.func62 (by kernel_rfl) (by kernel_rfl) cg0 (fun a=>by kernel_rfl)
theorem zaru:SG ZP sg 166 @zab1:=conE good Tryz.func166 (by kernel_rfl) (by kernel_rfl) (cgc zo8 (cgc (sgP z5t) cg0)) (fun a=>by kernel_rfl)
theorem zo7:SG ZP sg 162 @zaat:=conE good Tryz.func162 (by kernel_rfl) (by kernel_rfl) cg0 (fun a=>by kernel_rfl)
theorem zaso:SG ZP sg 238 @zayh:=conE good Tryz.func238 (by kernel_rfl) (by kernel_rfl) (cgc zo7 cg0) (fun a=>by kernel_rfl)
theorem zasn:SG ZP sg 239 @zayg:=conE good Tryz.func239 (by kernel_rfl) (by kernel_rfl) (cgc zo7 cg0) (fun a=>by kernel_rfl)
theorem z5c:SG ZP sg 241 @zawu:=conE good Tryz.func241 (by kernel_rfl) (by kernel_rfl) cg0 (fun a=>by kernel_rfl)
theorem zasr:SG ZP sg 240 @zayk:=conE good Tryz.func240 (by kernel_rfl) (by kernel_rfl) (cgc z5c cg0) (fun a=>by kernel_rfl)
theorem z55:SG ZP sg 163 @zab3:=conE good Tryz.func163 (by kernel_rfl) (by kernel_rfl) (cgc zo7 (cgc zaso (cgc zasn (cgc zasr (cgc z5c cg0))))) (fun a=>by kernel_rfl)
theorem za1m:fnB ZP 58 Tryz.f58 [5]=true:=by kernel_rfl
theorem zajw:CG ZP sg @zaeg:=(cgc z54 (cgc zo7 (cgc z55 cg0)))
theorem zagv:zaf ZP sg 0 Tryz.f58 @zs8 5:=zas zyl good Tryz.func58 za1m zajw zaa (fun a=>by kernel_rfl) (by kernel_rfl) (fun _ _=>rfl)
theorem zaqb:SG ZP sg 58 @zaar:=conD (loops:=zs8) good Tryz.func58 za1m (by kernel_rfl) zajw (all_cons zagv zaa) (fun a=>by kernel_rfl)
theorem zafe:fnB ZP 63 Tryz.f63 [4,10,16]=true:=by kernel_rfl
theorem zaeu:CG ZP sg @zaou:=(cgc zaqb (cgc zgl (cgc zaru cg0)))
theorem zaud:zaf ZP sg 0 Tryz.f63 @zje 4:=zas z7v good Tryz.func63 zafe zaeu zaa (fun a=>by kernel_rfl) (by kernel_rfl) (fun _ _=>rfl)
theorem zahe:zaf ZP sg 0 Tryz.f63 @zje 10:=zas zy5 good Tryz.func63 zafe zaeu zaa (fun a=>by kernel_rfl) (by kernel_rfl) (fun _ _=>rfl)
theorem zahf:zaf ZP sg 0 Tryz.f63 @zje 16:=zas zy6 good Tryz.func63 zafe zaeu zaa (fun a=>by kernel_rfl) (by kernel_rfl) (fun _ _=>rfl)
theorem za06:SG ZP sg 63 @za4e:=conD (loops:=zje) good Tryz.func63 zafe (by kernel_rfl) zaeu (all_cons zaud (all_cons zahe (all_cons zahf zaa))) (fun a=>by kernel_rfl)
theorem zap5:SG ZP sg 245 @zaag:=conE good Tryz.func245 (by kernel_rfl) (by kernel_rfl) (cgc (sgP z5t) (cgc (sgP zarx) cg0)) (fun a=>by kernel_rfl)
theorem zako:fnB ZP 167 Tryz.f167 [5]=true:=by kernel_rfl
theorem zajp:CG ZP sg @zad9:=(cgc zap5 cg0)
theorem zago:zaf ZP sg 0 Tryz.f167 @zs0 5:=zas zye good Tryz.func167 zako zajp zaa (fun a=>by kernel_rfl) (by kernel_rfl) (fun _ _=>rfl)
theorem z48:SG ZP sg 167 @zaal:=conD (loops:=zs0) good Tryz.func167 zako (by kernel_rfl) zajp (all_cons zago zaa) (fun a=>by kernel_rfl)
theorem zark:SG ZP sg 246 @zabw:=conE good Tryz.func246 (by kernel_rfl) (by kernel_rfl) cg0 (fun a=>by kernel_rfl)
theorem z5q:SG ZP sg 219 @zabf:=conE good Tryz.func219 (by kernel_rfl) (by kernel_rfl) cg0 (fun a=>by kernel_rfl)
theorem zakp:fnB ZP 168 Tryz.f168 [4]=true:=by kernel_rfl
theorem zajq:CG ZP sg @zaea:=(cgc z5q (cgc zark cg0))
theorem zagp:zaf ZP sg 0 Tryz.f168 @zs1 4:=zas zyf good Tryz.func168 zakp zajq zaa (fun a=>by kernel_rfl) (by kernel_rfl) (fun _ _=>rfl)
theorem z49:SG ZP sg 168 @zaan:=conD (loops:=zs1) good Tryz.func168 zakp (by kernel_rfl) zajq (all_cons zagp zaa) (fun a=>by kernel_rfl)
theorem zuo:SG ZP sg 284 @zawy:=conE good Tryz.func284 (by kernel_rfl) (by kernel_rfl) cg0 (fun a=>by kernel_rfl)
theorem zari:SG ZP sg 298 @zaxq:=conE good Tryz.func298 (by kernel_rfl) (by kernel_rfl) (cgc zuo cg0) (fun a=>by kernel_rfl)
theorem zasi:SG ZP sg 247 @zacc:=conE good Tryz.func247 (by kernel_rfl) (by kernel_rfl) (cgc zuo (cgc zari cg0)) (fun a=>by kernel_rfl)
theorem zaqs:SG ZP sg 249 @zaa5:=conE good Tryz.func249 (by kernel_rfl) (by kernel_rfl) cg0 (fun a=>by kernel_rfl)
theorem zne:fnB ZP 248 Tryz.f248 [2,5]=true:=by kernel_rfl
theorem zao2:CG ZP sg @zaoh:=(cgc zaqs cg0)
theorem z8f:zaf ZP sg 0 Tryz.f248 @zp2 5:=zas z7d good Tryz.func248 zne zao2 zaa (fun a=>by kernel_rfl) (by kernel_rfl) (fun _ _=>rfl)
theorem zaty:zaf ZP sg 0 Tryz.f248 @zp2 2:=zas z7c good Tryz.func248 zne zao2 (all_cons z8f zaa) (fun a=>by kernel_rfl) (by kernel_rfl) (fun _ _=>rfl)
theorem za0u:SG ZP sg 248 @zann:=conD (loops:=zp2) good Tryz.func248 zne (by kernel_rfl) zao2 (all_cons zaty (all_cons z8f zaa)) (fun a=>by kernel_rfl)
theorem zaqw:SG ZP sg 250 @zabb:=conE good Tryz.func250 (by kernel_rfl) (by kernel_rfl) cg0 (fun a=>by kernel_rfl)
theorem zo3:CG ZP sg @z0g:=(cgc zaqw cg0)
theorem znw:zaf ZP sg 0 Tryz.f248 @zgo 5:=zas znq good Tryz.func248 zne zo3 zaa (fun a=>by kernel_rfl) (by kernel_rfl) (fun _ _=>rfl)
theorem z1m:zaf ZP sg 0 Tryz.f248 @zgo 2:=zas znp good Tryz.func248 zne zo3 (all_cons znw zaa) (fun a=>by kernel_rfl) (by kernel_rfl) (fun _ _=>rfl)
theorem z5r:SG ZP sg 248 @ztu:=conD (loops:=zgo) good Tryz.func248 zne (by kernel_rfl) zo3 (all_cons z1m (all_cons znw zaa)) (fun a=>by kernel_rfl)
theorem zakq:fnB ZP 169 Tryz.f169 [4]=true:=by kernel_rfl
theorem za0k:CG ZP sg @zaom:=(cgc zasi (cgc (sgi za0u (sgi z5r sg0)) cg0))
theorem zat4:zaf ZP sg 0 Tryz.f169 @zzi 4:=zas z7j good Tryz.func169 zakq za0k zaa (fun a=>by kernel_rfl) (by kernel_rfl) (fun _ _=>rfl)
theorem zaj8:SG ZP sg 169 @zanq:=conD (loops:=zzi) good Tryz.func169 zakq (by kernel_rfl) za0k (all_cons zat4 zaa) (fun a=>by kernel_rfl)
theorem zasf:SG ZP sg 299 @zayc:=conE good Tryz.func299 (by kernel_rfl) (by kernel_rfl) cg0 (fun a=>by kernel_rfl)
theorem z56:SG ZP sg 280 @zaxy:=conE good Tryz.func280 (by kernel_rfl) (by kernel_rfl) cg0 (fun a=>by kernel_rfl)
theorem zaqq:SG ZP sg 251 @zaa1:=conE good Tryz.func251 (by kernel_rfl) (by kernel_rfl) (cgc z56 (cgc zasf cg0)) (fun a=>by kernel_rfl)
theorem zakr:fnB ZP 170 Tryz.f170 [4]=true:=by kernel_rfl
theorem zajr:CG ZP sg @zaeb:=(cgc zaqq cg0)
theorem zagq:zaf ZP sg 0 Tryz.f170 @zs3 4:=zas zyg good Tryz.func170 zakr zajr zaa (fun a=>by kernel_rfl) (by kernel_rfl) (fun _ _=>rfl)
theorem z5a:SG ZP sg 170 @zaao:=conD (loops:=zs3) good Tryz.func170 zakr (by kernel_rfl) zajr (all_cons zagq zaa) (fun a=>by kernel_rfl)
theorem z41:SG ZP sg 268 @zav8:=conE good Tryz.func268 (by kernel_rfl) (by kernel_rfl) cg0 (fun a=>by kernel_rfl)
theorem zasd:SG ZP sg 252 @zab9:=conE good Tryz.func252 (by kernel_rfl) (by kernel_rfl) (cgc z41 cg0) (fun a=>by kernel_rfl)
theorem z5j:SG ZP sg 253 @zaa6:=conE good Tryz.func253 (by kernel_rfl) (by kernel_rfl) cg0 (fun a=>by kernel_rfl)
theorem zalg:fnB ZP 300 Tryz.f300 [2]=true:=by kernel_rfl
theorem zai8:CG ZP sg @zadl:=(cgc z5j cg0)
theorem zaf0:zaf ZP sg 0 Tryz.f300 @zsj 2:=zas zxp good Tryz.func300 zalg zai8 zaa (fun a=>by kernel_rfl) (by kernel_rfl) (fun _ _=>rfl)
theorem zapj:SG ZP sg 300 @zavt:=conD (loops:=zsj) good Tryz.func300 zalg (by kernel_rfl) zai8 (all_cons zaf0 zaa) (fun a=>by kernel_rfl)
theorem zarl:SG ZP sg 254 @zabx:=conE good Tryz.func254 (by kernel_rfl) (by kernel_rfl) (cgc z5j (cgc zapj cg0)) (fun a=>by kernel_rfl)
theorem zaks:fnB ZP 171 Tryz.f171 [4]=true:=by kernel_rfl
theorem za0p:CG ZP sg @zaoz:=(cgc zasd (cgc zarl cg0))
theorem zaui:zaf ZP sg 0 Tryz.f171 @zzn 4:=zas z73 good Tryz.func171 zaks za0p zaa (fun a=>by kernel_rfl) (by kernel_rfl) (fun _ _=>rfl)
theorem za09:SG ZP sg 171 @zanx:=conD (loops:=zzn) good Tryz.func171 zaks (by kernel_rfl) za0p (all_cons zaui zaa) (fun a=>by kernel_rfl)
theorem zuq:SG ZP sg 257 @zabk:=conE good Tryz.func257 (by kernel_rfl) (by kernel_rfl) cg0 (fun a=>by kernel_rfl)
theorem z5s:SG ZP sg 256 @zabg:=conE good Tryz.func256 (by kernel_rfl) (by kernel_rfl) (cgc zuq cg0) (fun a=>by kernel_rfl)
theorem zalh:fnB ZP 301 Tryz.f301 [2]=true:=by kernel_rfl
theorem zajo:CG ZP sg @zad8:=(cgc z5s cg0)
theorem zagn:zaf ZP sg 0 Tryz.f301 @zsz 2:=zas zyd good Tryz.func301 zalh zajo zaa (fun a=>by kernel_rfl) (by kernel_rfl) (fun _ _=>rfl)
theorem zap6:SG ZP sg 301 @zawd:=conD (loops:=zsz) good Tryz.func301 zalh (by kernel_rfl) zajo (all_cons zagn zaa) (fun a=>by kernel_rfl)
theorem zasb:SG ZP sg 255 @zab8:=conE good Tryz.func255 (by kernel_rfl) (by kernel_rfl) (cgc z5s (cgc zap6 cg0)) (fun a=>by kernel_rfl)
theorem zakt:fnB ZP 172 Tryz.f172 [8]=true:=by kernel_rfl
theorem za0o:CG ZP sg @zaox:=(cgc zasb cg0)
theorem zaug:zaf ZP sg 0 Tryz.f172 @zzm 8:=zas z7y good Tryz.func172 zakt za0o zaa (fun a=>by kernel_rfl) (by kernel_rfl) (fun _ _=>rfl)
theorem zakb:SG ZP sg 172 @zanv:=conD (loops:=zzm) good Tryz.func172 zakt (by kernel_rfl) za0o (all_cons zaug zaa) (fun a=>by kernel_rfl)
theorem zaff:fnB ZP 64 Tryz.f64 [4,12,18]=true:=by kernel_rfl
theorem zaet:CG ZP sg @zaot:=(cgc zo8 (cgc z48 (cgc z49 (cgc zaj8 (cgc z5a (cgc za09 (cgc zakb cg0)))))))
theorem zauc:zaf ZP sg 0 Tryz.f64 @zjd 4:=zas z7u good Tryz.func64 zaff zaet zaa (fun a=>by kernel_rfl) (by kernel_rfl) (fun _ _=>rfl)
theorem zahc:zaf ZP sg 0 Tryz.f64 @zjd 12:=zas zy3 good Tryz.func64 zaff zaet zaa (fun a=>by kernel_rfl) (by kernel_rfl) (fun _ _=>rfl)
theorem zahd:zaf ZP sg 0 Tryz.f64 @zjd 18:=zas zy4 good Tryz.func64 zaff zaet zaa (fun a=>by kernel_rfl) (by kernel_rfl) (fun _ _=>rfl)
theorem za05:SG ZP sg 64 @za4d:=conD (loops:=zjd) good Tryz.func64 zaff (by kernel_rfl) zaet (all_cons zauc (all_cons zahc (all_cons zahd zaa))) (fun a=>by kernel_rfl)
theorem zaq2:SG ZP sg 265 @zabh:=conE good Tryz.func265 (by kernel_rfl) (by kernel_rfl) cg0 (fun a=>by kernel_rfl)
theorem zxc:fnB ZP 185 Tryz.f185 [2]=true:=by kernel_rfl
theorem za0m:CG ZP sg @zaoq:=(cgc zaq2 cg0)
theorem zat8:zaf ZP sg 0 Tryz.f185 @zzk 2:=zas z7o good Tryz.func185 zxc za0m zaa (fun a=>by kernel_rfl) (by kernel_rfl) (fun _ _=>rfl)
theorem za02:SG ZP sg 185 @za4a:=conD (loops:=zzk) good Tryz.func185 zxc (by kernel_rfl) za0m (all_cons zat8 zaa) (fun a=>by kernel_rfl)
theorem z42:SG ZP sg 184 @zawa:=conE good Tryz.func184 (by kernel_rfl) (by kernel_rfl) (cgc za02 cg0) (fun a=>by kernel_rfl)
theorem zj8:SG ZP sg 90 @zaw3:=conE good Tryz.func90 (by kernel_rfl) (by kernel_rfl) (cgc z42 cg0) (fun a=>by kernel_rfl)
theorem zaqr:SG ZP sg 173 @zaa3:=conE good Tryz.func173 (by kernel_rfl) (by kernel_rfl) (cgc zj8 cg0) (fun a=>by kernel_rfl)
theorem zafg:fnB ZP 65 Tryz.f65 [3,9,15]=true:=by kernel_rfl
theorem zaeq:CG ZP sg @zaoj:=(cgc zgl (cgc zaqr cg0))
theorem zat0:zaf ZP sg 0 Tryz.f65 @zja 3:=zas z7f good Tryz.func65 zafg zaeq zaa (fun a=>by kernel_rfl) (by kernel_rfl) (fun _ _=>rfl)
theorem zat1:zaf ZP sg 0 Tryz.f65 @zja 9:=zas z7g good Tryz.func65 zafg zaeq zaa (fun a=>by kernel_rfl) (by kernel_rfl) (fun _ _=>rfl)
theorem zaha:zaf ZP sg 0 Tryz.f65 @zja 15:=zas zy0 good Tryz.func65 zafg zaeq zaa (fun a=>by kernel_rfl) (by kernel_rfl) (fun _ _=>rfl)
theorem za0x:SG ZP sg 65 @za38:=conD (loops:=zja) good Tryz.func65 zafg (by kernel_rfl) zaeq (all_cons zat0 (all_cons zat1 (all_cons zaha zaa))) (fun a=>by kernel_rfl)
theorem zj5:SG ZP sg 165 @zavu:=conE good Tryz.func165 (by kernel_rfl) (by kernel_rfl) cg0 (fun a=>by kernel_rfl)
theorem z5f:SG ZP sg 243 @zaa2:=conE good Tryz.func243 (by kernel_rfl) (by kernel_rfl) cg0 (fun a=>by kernel_rfl)
theorem zxd:fnB ZP 242 Tryz.f242 [2]=true:=by kernel_rfl
theorem za0l:CG ZP sg @zaoo:=(cgc z5f cg0)
theorem zat6:zaf ZP sg 0 Tryz.f242 @zzj 2:=zas z7m good Tryz.func242 zxd za0l zaa (fun a=>by kernel_rfl) (by kernel_rfl) (fun _ _=>rfl)
theorem za00:SG ZP sg 242 @za39:=conD (loops:=zzj) good Tryz.func242 zxd (by kernel_rfl) za0l (all_cons zat6 zaa) (fun a=>by kernel_rfl)
theorem zj7:SG ZP sg 164 @zawk:=conE good Tryz.func164 (by kernel_rfl) (by kernel_rfl) (cgc za00 (cgc z5f cg0)) (fun a=>by kernel_rfl)
theorem zul:SG ZP sg 59 @zv8:=conE good Tryz.func59 (by kernel_rfl) (by kernel_rfl) (cgc zj7 (cgc zj5 cg0)) (fun a=>by kernel_rfl)
theorem za1n:fnB ZP 66 Tryz.f66 [2]=true:=by kernel_rfl
theorem zajy:CG ZP sg @zaei:=(cgc zul cg0)
theorem zagx:zaf ZP sg 0 Tryz.f66 @zta 2:=zas zyn good Tryz.func66 za1n zajy zaa (fun a=>by kernel_rfl) (by kernel_rfl) (fun _ _=>rfl)
theorem zaqe:SG ZP sg 66 @zawm:=conD (loops:=zta) good Tryz.func66 za1n (by kernel_rfl) zajy (all_cons zagx zaa) (fun a=>by kernel_rfl)
theorem zaqn:SG ZP sg 197 @zaav:=conE good Tryz.func197 (by kernel_rfl) (by kernel_rfl) cg0 (fun a=>by kernel_rfl)
theorem zmq:fnB ZP 99 Tryz.f99 [2]=true:=by kernel_rfl
theorem za0g:CG ZP sg @zaof:=(cgc zaqn cg0)
theorem zatw:zaf ZP sg 0 Tryz.f99 @zze 2:=zas z7a good Tryz.func99 zmq za0g zaa (fun a=>by kernel_rfl) (by kernel_rfl) (fun _ _=>rfl)
theorem za0s:SG ZP sg 99 @za35:=conD (loops:=zze) good Tryz.func99 zmq (by kernel_rfl) za0g (all_cons zatw zaa) (fun a=>by kernel_rfl)
theorem zui:SG ZP sg 96 @zaam:=conE good Tryz.func96 (by kernel_rfl) (by kernel_rfl) (cgc za0s cg0) (fun a=>by kernel_rfl)
theorem zas8:fnB ZP 67 Tryz.f67 [2,16]=true:=by kernel_rfl
theorem z4i:CG ZP sg @zadq:=(cgc zgl (cgc zui cg0))
theorem zaf6:zaf ZP sg 0 Tryz.f67 @zky 2:=zas zxw good Tryz.func67 zas8 z4i zaa (fun a=>by kernel_rfl) (by kernel_rfl) (fun _ _=>rfl)
theorem z8b:zaf ZP sg 0 Tryz.f67 @zky 16:=zas zr2 good Tryz.func67 zas8 z4i zaa (fun a=>by kernel_rfl) (by kernel_rfl) (fun _ _=>rfl)
theorem zapp:SG ZP sg 67 @zavw:=conD (loops:=zky) good Tryz.func67 zas8 (by kernel_rfl) z4i (all_cons zaf6 (all_cons z8b zaa)) (fun a=>by kernel_rfl)
theorem z5y:SG ZP sg 20 @zaxr:=conE good Tryz.func20 (by kernel_rfl) (by kernel_rfl) (cgc zo8 (cgc za06 (cgc za05 (cgc za0x (cgc zaqe (cgc zapp cg0)))))) (fun a=>by kernel_rfl)
theorem zapt:SG ZP sg 23 @zav1:=conE good Tryz.func23 (by kernel_rfl) (by kernel_rfl) (cgc z5y (cgc zgl (cgc z54 (cgc z50 (cgc (sgP zarq) (cgc z5i cg0)))))) (fun a=>by kernel_rfl)
theorem zaq6:SG ZP sg 186 @zabm:=conE good Tryz.func186 (by kernel_rfl) (by kernel_rfl) cg0 (fun a=>by kernel_rfl)
theorem zw8:CG ZP sg @z0k:=(cgc zaq6 cg0)
theorem z1q:zaf ZP sg 0 Tryz.f185 @zk8 2:=zas znu good Tryz.func185 zxc zw8 zaa (fun a=>by kernel_rfl) (by kernel_rfl) (fun _ _=>rfl)
theorem z6a:SG ZP sg 185 @zacf:=conD (loops:=zk8) good Tryz.func185 zxc (by kernel_rfl) zw8 (all_cons z1q zaa) (fun a=>by kernel_rfl)
theorem zaro:SG ZP sg 189 @zaxu:=conS (loops:=l0) (ids:=[]) good Tryz.func189 (by kernel_rfl) (by kernel_rfl) cg0 zaa (fun a=>by kernel_rfl) (by kernel_rfl)
theorem zart:SG ZP sg 187 @zaxv:=conE good Tryz.func187 (by kernel_rfl) (by kernel_rfl) (cgc z48 cg0) (fun a=>by kernel_rfl)
theorem zap3:SG ZP sg 86 @zawb:=conE good Tryz.func86 (by kernel_rfl) (by kernel_rfl) (cgc z42 (cgc z6a (cgc zart (cgc (sgP zarn) (cgc zaro cg0))))) (fun a=>by kernel_rfl)
theorem zaqv:SG ZP sg 25 @zaw8:=conE good Tryz.func25 (by kernel_rfl) (by kernel_rfl) (cgc zap3 cg0) (fun a=>by kernel_rfl)
theorem zarv:SG ZP sg 60 @zaxw:=conE good Tryz.func60 (by kernel_rfl) (by kernel_rfl) (cgc zar0 (cgc zapt (cgc zaqv cg0))) (fun a=>by kernel_rfl)
theorem zhw:SG ZP sg 88 @zawz:=conN (loops:=l0) (ids:=[]) good Tryz.func88 (by kernel_rfl) (by kernel_rfl) cg0 zaa (fun a=>by kernel_rfl)
theorem zih:SG ZP sg 91 @za4f:=conM (loops:=l0) (ids:=[]) good Tryz.func91 (by kernel_rfl) (by kernel_rfl) cg0 zaa (fun a b=>by kernel_rfl)
theorem zuw:SG ZP sg 89 @zaxl:=conM (loops:=l0) (ids:=[]) good Tryz.func89 (by kernel_rfl) (by kernel_rfl) (cgc zgl (cgc zih cg0)) zaa (fun a b=>by kernel_rfl)
theorem zarc:SG ZP sg 192 @zaxf:=conS (loops:=l0) (ids:=[]) good Tryz.func192 (by kernel_rfl) (by kernel_rfl) cg0 zaa (fun a=>by kernel_rfl) (by kernel_rfl)
theorem zgm:SG ZP sg 93 @zawh:=conM (loops:=l0) (ids:=[]) good Tryz.func93 (by kernel_rfl) (by kernel_rfl) (cgc z5i (cgc zih (cgc z55 (cgc zarc cg0)))) zaa (fun a b=>by kernel_rfl)
theorem zuh:SG ZP sg 222 @zv6:=conE good Tryz.func222 (by kernel_rfl) (by kernel_rfl) cg0 (fun a=>by kernel_rfl)
theorem z6n:fnB ZP 316 Tryz.f316 [1,4]=true:=by kernel_rfl
theorem zao4:CG ZP sg @zaos:=(cgc zuh cg0)
theorem z8i:zaf ZP sg MA Tryz.f316 @zp4 4:=zas z7t good Tryz.func316 z6n zao4 zaa (fun a=>by kernel_rfl) (by kernel_rfl) (fun _ _=>rfl)
theorem zaub:zaf ZP sg MA Tryz.f316 @zp4 1:=zas z7s good Tryz.func316 z6n zao4 (all_cons z8i zaa) (fun a=>by kernel_rfl) (by kernel_rfl) (fun _ _=>rfl)
theorem za04:SG ZP sg 316 @zant:=conI (loops:=zp4) good Tryz.func316 z6n (by kernel_rfl) zao4 (all_cons zaub (all_cons z8i zaa)) (fun a=>by kernel_rfl)
theorem zxe:fnB ZP 291 Tryz.f291 [2,7,9]=true:=by kernel_rfl
theorem zaes:CG ZP sg @zaor:=(cgc zuh (cgc za04 (cgc (sgP zaqo) cg0)))
theorem zat9:zaf ZP sg MA Tryz.f291 @zjc 2:=zas z7p good Tryz.func291 zxe zaes zaa (fun a=>by kernel_rfl) (by kernel_rfl) (fun _ _=>rfl)
theorem z8h:zaf ZP sg MA Tryz.f291 @zjc 9:=zas z7r good Tryz.func291 zxe zaes zaa (fun a=>by kernel_rfl) (by kernel_rfl) (fun _ _=>rfl)
theorem zaua:zaf ZP sg MA Tryz.f291 @zjc 7:=zas z7q good Tryz.func291 zxe zaes (all_cons z8h zaa) (fun a=>by kernel_rfl) (by kernel_rfl) (fun _ _=>rfl)
theorem za03:SG ZP sg 291 @za4c:=conI (loops:=zjc) good Tryz.func291 zxe (by kernel_rfl) zaes (all_cons zat9 (all_cons zaua (all_cons z8h zaa))) (fun a=>by kernel_rfl)
theorem zarm:SG ZP sg 221 @zab0:=conI (loops:=l0) (ids:=[]) good Tryz.func221 (by kernel_rfl) (by kernel_rfl) (cgc zuh (cgc za03 cg0)) zaa (fun a=>by kernel_rfl)
theorem zakl:fnB ZP 135 Tryz.f135 [3]=true:=by kernel_rfl
theorem za0i:CG ZP sg @zaok:=(cgc zarm cg0)
theorem zat2:zaf ZP sg 0 Tryz.f135 @zzg 3:=zas z7h good Tryz.func135 zakl za0i zaa (fun a=>by kernel_rfl) (by kernel_rfl) (fun _ _=>rfl)
theorem za0y:SG ZP sg 135 @zanp:=conD (loops:=zzg) good Tryz.func135 zakl (by kernel_rfl) za0i (all_cons zat2 zaa) (fun a=>by kernel_rfl)
theorem za1k:fnB ZP 35 Tryz.f35 [3]=true:=by kernel_rfl
theorem zaji:CG ZP sg @zad2:=(cgc za0y cg0)
theorem zagh:zaf ZP sg 0 Tryz.f35 @zst 3:=zas zx7 good Tryz.func35 za1k zaji zaa (fun a=>by kernel_rfl) (by kernel_rfl) (fun _ _=>rfl)
theorem z4y:SG ZP sg 35 @zaae:=conD (loops:=zst) good Tryz.func35 za1k (by kernel_rfl) zaji (all_cons zagh zaa) (fun a=>by kernel_rfl)
theorem zut:SG ZP sg 156 @zabs:=conE good Tryz.func156 (by kernel_rfl) (by kernel_rfl) (cgc z4y cg0) (fun a=>by kernel_rfl)
theorem zarw:SG ZP sg 289 @zab4:=conE good Tryz.func289 (by kernel_rfl) (by kernel_rfl) cg0 (fun a=>by kernel_rfl)
theorem zw1:CG ZP sg @z0c:=(cgc zarw cg0)
theorem z1i:zaf ZP sg 0 Tryz.f99 @zk1 2:=zas znl good Tryz.func99 zmq zw1 zaa (fun a=>by kernel_rfl) (by kernel_rfl) (fun _ _=>rfl)
theorem z43:SG ZP sg 99 @zaah:=conD (loops:=zk1) good Tryz.func99 zmq (by kernel_rfl) zw1 (all_cons z1i zaa) (fun a=>by kernel_rfl)
theorem zuk:SG ZP sg 217 @zawe:=conE good Tryz.func217 (by kernel_rfl) (by kernel_rfl) (cgc z43 cg0) (fun a=>by kernel_rfl)
theorem zup:SG ZP sg 128 @zaxc:=conE good Tryz.func128 (by kernel_rfl) (by kernel_rfl) (cgc zuk cg0) (fun a=>by kernel_rfl)
theorem zard:SG ZP sg 137 @zaxm:=conM (loops:=l0) (ids:=[]) good Tryz.func137 (by kernel_rfl) (by kernel_rfl) (cgc zgm cg0) zaa (fun a b=>by kernel_rfl)
theorem zar2:SG ZP sg 337 @zax2:=conE good Tryz.func337 (by kernel_rfl) (by kernel_rfl) cg0 (fun a=>by kernel_rfl)
theorem zaqp:SG ZP sg 311 @zaaz:=conE good Tryz.func311 (by kernel_rfl) (by kernel_rfl) (cgc zar2 cg0) (fun a=>by kernel_rfl)
theorem zalj:fnB ZP 312 Tryz.f312 [3]=true:=by kernel_rfl
theorem zajt:CG ZP sg @zaed:=cg0
theorem zags:zaf ZP sg 0 Tryz.f312 @zs5 3:=zas zyi good Tryz.func312 zalj zajt zaa (fun a=>by kernel_rfl) (by kernel_rfl) (fun _ _=>rfl)
theorem zap8:SG ZP sg 312 @zaap:=conD (loops:=zs5) good Tryz.func312 zalj (by kernel_rfl) zajt (all_cons zags zaa) (fun a=>by kernel_rfl)
theorem zale:fnB ZP 287 Tryz.f287 [3]=true:=by kernel_rfl
theorem zaiz:CG ZP sg @zadc:=(cgc zaqp (cgc zap8 cg0))
theorem zafr:zaf ZP sg 0 Tryz.f287 @zsa 3:=zas zxg good Tryz.func287 zale zaiz zaa (fun a=>by kernel_rfl) (by kernel_rfl) (fun _ _=>rfl)
theorem zapc:SG ZP sg 287 @zavm:=conD (loops:=zsa) good Tryz.func287 zale (by kernel_rfl) zaiz (all_cons zafr zaa) (fun a=>by kernel_rfl)
theorem zaq7:SG ZP sg 211 @zaxd:=conE good Tryz.func211 (by kernel_rfl) (by kernel_rfl) (cgc zapc cg0) (fun a=>by kernel_rfl)
theorem zhv:SG ZP sg 118 @zawx:=conE good Tryz.func118 (by kernel_rfl) (by kernel_rfl) (cgc zj8 (cgc zaq7 cg0)) (fun a=>by kernel_rfl)
theorem zpb:SG ZP sg 120 @zaw0:=conE good Tryz.func120 (by kernel_rfl) (by kernel_rfl) (cgc zo8 cg0) (fun a=>by kernel_rfl)
theorem zase:SG ZP sg 345 @zayb:=conE good Tryz.func345 (by kernel_rfl) (by kernel_rfl) cg0 (fun a=>by kernel_rfl)
theorem zasg:SG ZP sg 324 @zaca:=conE good Tryz.func324 (by kernel_rfl) (by kernel_rfl) (cgc zase cg0) (fun a=>by kernel_rfl)
theorem zar1:SG ZP sg 349 @zab6:=conE good Tryz.func349 (by kernel_rfl) (by kernel_rfl) cg0 (fun a=>by kernel_rfl)
theorem zalk:fnB ZP 334 Tryz.f334 [3]=true:=by kernel_rfl
theorem zai2:CG ZP sg @zadf:=(cgc zasg (cgc zar1 cg0))
theorem zafu:zaf ZP sg 0 Tryz.f334 @zsd 3:=zas zxj good Tryz.func334 zalk zai2 zaa (fun a=>by kernel_rfl) (by kernel_rfl) (fun _ _=>rfl)
theorem zapf:SG ZP sg 334 @zavp:=conD (loops:=zsd) good Tryz.func334 zalk (by kernel_rfl) zai2 (all_cons zafu zaa) (fun a=>by kernel_rfl)
theorem zali:fnB ZP 308 Tryz.f308 [3]=true:=by kernel_rfl
theorem zajl:CG ZP sg @zad5:=cg0
theorem zagk:zaf ZP sg 0 Tryz.f308 @zsw 3:=zas zya good Tryz.func308 zali zajl zaa (fun a=>by kernel_rfl) (by kernel_rfl) (fun _ _=>rfl)
theorem z4z:SG ZP sg 308 @zaaf:=conD (loops:=zsw) good Tryz.func308 zali (by kernel_rfl) zajl (all_cons zagk zaa) (fun a=>by kernel_rfl)
theorem zasw:SG ZP sg 336 @zayp:=conE good Tryz.func336 (by kernel_rfl) (by kernel_rfl) cg0 (fun a=>by kernel_rfl)
theorem zur:SG ZP sg 310 @zabn:=conE good Tryz.func310 (by kernel_rfl) (by kernel_rfl) (cgc zasw cg0) (fun a=>by kernel_rfl)
theorem z5g:SG ZP sg 304 @zv9:=conE good Tryz.func304 (by kernel_rfl) (by kernel_rfl) (cgc zuq (cgc z4z (cgc zur (cgc zapf cg0)))) (fun a=>by kernel_rfl)
theorem zak9:fnB ZP 269 Tryz.f269 [2]=true:=by kernel_rfl
theorem zai4:CG ZP sg @zadh:=(cgc z5g cg0)
theorem zafw:zaf ZP sg 0 Tryz.f269 @zsf 2:=zas zxl good Tryz.func269 zak9 zai4 zaa (fun a=>by kernel_rfl) (by kernel_rfl) (fun _ _=>rfl)
theorem z4r:SG ZP sg 269 @z93:=conD (loops:=zsf) good Tryz.func269 zak9 (by kernel_rfl) zai4 (all_cons zafw zaa) (fun a=>by kernel_rfl)
theorem zak4:fnB ZP 218 Tryz.f218 [9]=true:=by kernel_rfl
theorem zajk:CG ZP sg @zad4:=(cgc zuq (cgc z4r cg0))
theorem zagj:zaf ZP sg 0 Tryz.f218 @zsv 9:=zas zx9 good Tryz.func218 zak4 zajk zaa (fun a=>by kernel_rfl) (by kernel_rfl) (fun _ _=>rfl)
theorem zapy:SG ZP sg 218 @zav4:=conD (loops:=zsv) good Tryz.func218 zak4 (by kernel_rfl) zajk (all_cons zagj zaa) (fun a=>by kernel_rfl)
theorem z58:SG ZP sg 130 @zax1:=conM (loops:=l0) (ids:=[]) good Tryz.func130 (by kernel_rfl) (by kernel_rfl) (cgc zih (cgc zpb (cgc zapy cg0))) zaa (fun a b=>by kernel_rfl)
theorem z5l:SG ZP sg 285 @zaa7:=conE good Tryz.func285 (by kernel_rfl) (by kernel_rfl) cg0 (fun a=>by kernel_rfl)
theorem zw2:CG ZP sg @z0d:=(cgc z5l cg0)
theorem z1j:zaf ZP sg 0 Tryz.f99 @zk2 2:=zas znm good Tryz.func99 zmq zw2 zaa (fun a=>by kernel_rfl) (by kernel_rfl) (fun _ _=>rfl)
theorem z44:SG ZP sg 99 @zaai:=conD (loops:=zk2) good Tryz.func99 zmq (by kernel_rfl) zw2 (all_cons z1j zaa) (fun a=>by kernel_rfl)
theorem zaql:SG ZP sg 117 @zawt:=conE good Tryz.func117 (by kernel_rfl) (by kernel_rfl) (cgc z44 (cgc z5l cg0)) (fun a=>by kernel_rfl)
theorem zuv:SG ZP sg 225 @zaxh:=conS (loops:=l0) (ids:=[]) good Tryz.func225 (by kernel_rfl) (by kernel_rfl) cg0 zaa (fun a=>by kernel_rfl) (by kernel_rfl)
theorem zarj:SG ZP sg 228 @zaxt:=conE good Tryz.func228 (by kernel_rfl) (by kernel_rfl) (cgc zuv cg0) (fun a=>by kernel_rfl)
theorem z4w:SG ZP sg 205 @zav2:=conE good Tryz.func205 (by kernel_rfl) (by kernel_rfl) (cgc zaql (cgc zuk (cgc zarj (cgc zuo cg0)))) (fun a=>by kernel_rfl)
theorem zpd:SG ZP sg 139 @zaw2:=conM (loops:=l0) (ids:=[]) good Tryz.func139 (by kernel_rfl) (by kernel_rfl) (cgc zih cg0) zaa (fun a b=>by kernel_rfl)
theorem z5v:SG ZP sg 109 @zaxj:=conM (loops:=l0) (ids:=[]) good Tryz.func109 (by kernel_rfl) (by kernel_rfl) (cgc zgm (cgc zhv (cgc z58 (cgc zpd (cgc z4w cg0))))) zaa (fun a b=>by kernel_rfl)
theorem zun:SG ZP sg 110 @zaay:=conM (loops:=l0) (ids:=[]) good Tryz.func110 (by kernel_rfl) (by kernel_rfl) (cgc zgm (cgc z5v (cgc zup (cgc zard (cgc zpd (cgc zut (cgc z4w cg0))))))) zaa (fun a b=>by kernel_rfl)
theorem zapo:SG ZP sg 136 @zavv:=conM (loops:=l0) (ids:=[]) good Tryz.func136 (by kernel_rfl) (by kernel_rfl) cg0 zaa (fun a b=>by kernel_rfl)
theorem zaqu:SG ZP sg 36 @zaw7:=conE good Tryz.func36 (by kernel_rfl) (by kernel_rfl) (cgc zhw (cgc zuw (cgc zgm (cgc zun (cgc zapo cg0))))) (fun a=>by kernel_rfl)
theorem za1l:fnB ZP 45 Tryz.f45 [3]=true:=by kernel_rfl
theorem zai7:CG ZP sg @zadk:=cg0
theorem zafz:zaf ZP sg 0 Tryz.f45 @zsi 3:=zas zxo good Tryz.func45 za1l zai7 zaa (fun a=>by kernel_rfl) (by kernel_rfl) (fun _ _=>rfl)
theorem z4s:SG ZP sg 45 @zavs:=conD (loops:=zsi) good Tryz.func45 za1l (by kernel_rfl) zai7 (all_cons zafz zaa) (fun a=>by kernel_rfl)
theorem zaky:fnB ZP 190 Tryz.f190 [3]=true:=by kernel_rfl
theorem za0f:CG ZP sg @zaod:=cg0
theorem zatt:zaf ZP sg 0 Tryz.f190 @zzd 3:=zas z67 good Tryz.func190 zaky za0f zaa (fun a=>by kernel_rfl) (by kernel_rfl) (fun _ _=>rfl)
theorem z4q:SG ZP sg 190 @z92:=conD (loops:=zzd) good Tryz.func190 zaky (by kernel_rfl) za0f (all_cons zatt zaa) (fun a=>by kernel_rfl)
theorem zak3:fnB ZP 210 Tryz.f210 [3]=true:=by kernel_rfl
theorem zai0:CG ZP sg @zadd:=(cgc z4q cg0)
theorem zafs:zaf ZP sg 0 Tryz.f210 @zsb 3:=zas zxh good Tryz.func210 zak3 zai0 zaa (fun a=>by kernel_rfl) (by kernel_rfl) (fun _ _=>rfl)
theorem zapd:SG ZP sg 210 @zavn:=conD (loops:=zsb) good Tryz.func210 zak3 (by kernel_rfl) zai0 (all_cons zafs zaa) (fun a=>by kernel_rfl)
theorem zak2:fnB ZP 209 Tryz.f209 [3]=true:=by kernel_rfl
theorem zajs:CG ZP sg @zaec:=cg0
theorem zagr:zaf ZP sg 0 Tryz.f209 @zs4 3:=zas zyh good Tryz.func209 zak2 zajs zaa (fun a=>by kernel_rfl) (by kernel_rfl) (fun _ _=>rfl)
theorem zap7:SG ZP sg 209 @zawg:=conD (loops:=zs4) good Tryz.func209 zak2 (by kernel_rfl) zajs (all_cons zagr zaa) (fun a=>by kernel_rfl)
theorem zus:SG ZP sg 115 @zabo:=conE good Tryz.func115 (by kernel_rfl) (by kernel_rfl) (cgc z4s (cgc zap7 (cgc zapd cg0))) (fun a=>by kernel_rfl)
theorem zala:fnB ZP 270 Tryz.f270 [2]=true:=by kernel_rfl
theorem zaj0:CG ZP sg @zaek:=(cgc z5g cg0)
theorem zagz:zaf ZP sg 0 Tryz.f270 @ztc 2:=zas zyp good Tryz.func270 zala zaj0 zaa (fun a=>by kernel_rfl) (by kernel_rfl) (fun _ _=>rfl)
theorem zaqg:SG ZP sg 270 @zawo:=conD (loops:=ztc) good Tryz.func270 zala (by kernel_rfl) zaj0 (all_cons zagz zaa) (fun a=>by kernel_rfl)
theorem z5d:SG ZP sg 191 @zawv:=conE good Tryz.func191 (by kernel_rfl) (by kernel_rfl) (cgc z41 (cgc z4r (cgc zaqg cg0))) (fun a=>by kernel_rfl)
theorem zar5:SG ZP sg 92 @zax4:=conE good Tryz.func92 (by kernel_rfl) (by kernel_rfl) (cgc zus (cgc zhv (cgc zpb (cgc zup (cgc zut (cgc z4q (cgc z5d cg0))))))) (fun a=>by kernel_rfl)
theorem z5o:SG ZP sg 193 @zaba:=conE good Tryz.func193 (by kernel_rfl) (by kernel_rfl) cg0 (fun a=>by kernel_rfl)
theorem zw7:CG ZP sg @z0j:=(cgc z5o cg0)
theorem z1p:zaf ZP sg 0 Tryz.f242 @zk7 2:=zas znt good Tryz.func242 zxd zw7 zaa (fun a=>by kernel_rfl) (by kernel_rfl) (fun _ _=>rfl)
theorem z59:SG ZP sg 242 @zace:=conD (loops:=zk7) good Tryz.func242 zxd (by kernel_rfl) zw7 (all_cons z1p zaa) (fun a=>by kernel_rfl)
theorem z0r:SG ZP sg 164 @z2z:=conE good Tryz.func164 (by kernel_rfl) (by kernel_rfl) (cgc z5o (cgc z59 cg0)) (fun a=>by kernel_rfl)
theorem zuu:SG ZP sg 196 @zaxg:=conS (loops:=l0) (ids:=[]) good Tryz.func196 (by kernel_rfl) (by kernel_rfl) cg0 zaa (fun a=>by kernel_rfl) (by kernel_rfl)
theorem z5k:SG ZP sg 194 @zaw6:=conE good Tryz.func194 (by kernel_rfl) (by kernel_rfl) (cgc z49 cg0) (fun a=>by kernel_rfl)
theorem zap0:SG ZP sg 95 @zav6:=conE good Tryz.func95 (by kernel_rfl) (by kernel_rfl) (cgc (sgi (ac:=zan2) zj7 (sgi (ac:=zou) z0r sg0)) (cgc zj5 (cgc z5k (cgc (sgP zarp) (cgc zuu cg0))))) (fun a=>by kernel_rfl)
theorem zpc:SG ZP sg 94 @zaw1:=conM (loops:=l0) (ids:=[]) good Tryz.func94 (by kernel_rfl) (by kernel_rfl) (cgc zih cg0) zaa (fun a b=>by kernel_rfl)
theorem zare:SG ZP sg 198 @zaxn:=conE good Tryz.func198 (by kernel_rfl) (by kernel_rfl) (cgc zuk (cgc zuv (cgc (sgP zars) cg0))) (fun a=>by kernel_rfl)
theorem zasc:SG ZP sg 97 @zaya:=conM (loops:=l0) (ids:=[]) good Tryz.func97 (by kernel_rfl) (by kernel_rfl) (cgc zpd (cgc zare cg0)) zaa (fun a b=>by kernel_rfl)
theorem zj6:SG ZP sg 98 @zawf:=conM (loops:=l0) (ids:=[]) good Tryz.func98 (by kernel_rfl) (by kernel_rfl) cg0 zaa (fun a b=>by kernel_rfl)
theorem zpa:SG ZP sg 101 @zaa4:=conE good Tryz.func101 (by kernel_rfl) (by kernel_rfl) cg0 (fun a=>by kernel_rfl)
theorem zaq9:SG ZP sg 100 @zabq:=conE good Tryz.func100 (by kernel_rfl) (by kernel_rfl) (cgc zpa cg0) (fun a=>by kernel_rfl)
theorem zw3:CG ZP sg @z0e:=(cgc zaq9 cg0)
theorem z1k:zaf ZP sg 0 Tryz.f99 @zk3 2:=zas znn good Tryz.func99 zmq zw3 zaa (fun a=>by kernel_rfl) (by kernel_rfl) (fun _ _=>rfl)
theorem z45:SG ZP sg 99 @zaaj:=conD (loops:=zk3) good Tryz.func99 zmq (by kernel_rfl) zw3 (all_cons z1k zaa) (fun a=>by kernel_rfl)
theorem zaqc:SG ZP sg 27 @zawl:=conE good Tryz.func27 (by kernel_rfl) (by kernel_rfl) (cgc zhw (cgc zuw (cgc zj8 (cgc zih (cgc zar5 (cgc zgm (cgc zpc (cgc zap0 (cgc zui (cgc zasc (cgc zj6 (cgc z45 cg0)))))))))))) (fun a=>by kernel_rfl)
theorem zarf:SG ZP sg 224 @zaxo:=conE good Tryz.func224 (by kernel_rfl) (by kernel_rfl) cg0 (fun a=>by kernel_rfl)
theorem zaq3:SG ZP sg 223 @zabi:=conE good Tryz.func223 (by kernel_rfl) (by kernel_rfl) (cgc zpa (cgc zarf cg0)) (fun a=>by kernel_rfl)
theorem zw6:CG ZP sg @z0i:=(cgc zaq3 cg0)
theorem z1o:zaf ZP sg 0 Tryz.f80 @zk6 2:=zas zns good Tryz.func80 z04 zw6 zaa (fun a=>by kernel_rfl) (by kernel_rfl) (fun _ _=>rfl)
theorem z51:SG ZP sg 80 @ztv:=conD (loops:=zk6) good Tryz.func80 z04 (by kernel_rfl) zw6 (all_cons z1o zaa) (fun a=>by kernel_rfl)
theorem zakm:fnB ZP 138 Tryz.f138 [9]=true:=by kernel_rfl
theorem za0n:CG ZP sg @zaow:=(cgc zgl (cgc z51 (cgc zus (cgc z4q cg0))))
theorem zauf:zaf ZP sg 0 Tryz.f138 @zzl 9:=zas z7x good Tryz.func138 zakm za0n zaa (fun a=>by kernel_rfl) (by kernel_rfl) (fun _ _=>rfl)
theorem za07:SG ZP sg 138 @za4g:=conD (loops:=zzl) good Tryz.func138 zakm (by kernel_rfl) za0n (all_cons zauf zaa) (fun a=>by kernel_rfl)
theorem zary:SG ZP sg 140 @zaxx:=conE good Tryz.func140 (by kernel_rfl) (by kernel_rfl) (cgc zaj8 (cgc zuv cg0)) (fun a=>by kernel_rfl)
theorem zakn:fnB ZP 141 Tryz.f141 [1]=true:=by kernel_rfl
theorem zajz:CG ZP sg @zaej:=(cgc zun (cgc zut cg0))
theorem zagy:zaf ZP sg 1 Tryz.f141 @ztb 1:=zas zyo good Tryz.func141 zakn zajz zaa (fun a=>by kernel_rfl) (by kernel_rfl) (fun _ _=>rfl)
theorem zaqf:SG ZP sg 141 @zawn:=conM (loops:=ztb) good Tryz.func141 zakn (by kernel_rfl) zajz (all_cons zagy zaa) (fun a b=>by kernel_rfl)
theorem zaq0:SG ZP sg 40 @zaxb:=conE good Tryz.func40 (by kernel_rfl) (by kernel_rfl) (cgc zhw (cgc zj8 (cgc zj6 (cgc zhv (cgc za07 (cgc zpd (cgc zary (cgc zaqf cg0)))))))) (fun a=>by kernel_rfl)
theorem z5m:SG ZP sg 116 @zaa8:=conE good Tryz.func116 (by kernel_rfl) (by kernel_rfl) (cgc zpa cg0) (fun a=>by kernel_rfl)
theorem zw4:CG ZP sg @z0f:=(cgc z5m cg0)
theorem z1l:zaf ZP sg 0 Tryz.f99 @zk4 2:=zas zno good Tryz.func99 zmq zw4 zaa (fun a=>by kernel_rfl) (by kernel_rfl) (fun _ _=>rfl)
theorem z47:SG ZP sg 99 @zaak:=conD (loops:=zk4) good Tryz.func99 zmq (by kernel_rfl) zw4 (all_cons z1l zaa) (fun a=>by kernel_rfl)
theorem z0s:SG ZP sg 117 @z22:=conE good Tryz.func117 (by kernel_rfl) (by kernel_rfl) (cgc z47 (cgc z5m cg0)) (fun a=>by kernel_rfl)
theorem zar4:SG ZP sg 119 @zax3:=conE good Tryz.func119 (by kernel_rfl) (by kernel_rfl) (cgc z5d cg0) (fun a=>by kernel_rfl)
theorem z5x:SG ZP sg 212 @zaxk:=conE good Tryz.func212 (by kernel_rfl) (by kernel_rfl) (cgc zuu cg0) (fun a=>by kernel_rfl)
theorem zasv:SG ZP sg 121 @zayo:=conE good Tryz.func121 (by kernel_rfl) (by kernel_rfl) (cgc zj7 (cgc zj5 (cgc z5k (cgc z5x cg0)))) (fun a=>by kernel_rfl)
theorem zap4:SG ZP sg 31 @zawc:=conE good Tryz.func31 (by kernel_rfl) (by kernel_rfl) (cgc zul (cgc zgl (cgc zhw (cgc zj8 (cgc zpc (cgc zj6 (cgc zus (cgc z0s (cgc zhv (cgc zar4 (cgc zpb (cgc zasv cg0)))))))))))) (fun a=>by kernel_rfl)
theorem zaki:fnB ZP 129 Tryz.f129 [2]=true:=by kernel_rfl
theorem zai3:CG ZP sg @zadg:=(cgc zul (cgc zpa cg0))
theorem zafv:zaf ZP sg 0 Tryz.f129 @zse 2:=zas zxk good Tryz.func129 zaki zai3 zaa (fun a=>by kernel_rfl) (by kernel_rfl) (fun _ _=>rfl)
theorem zapg:SG ZP sg 129 @zavq:=conD (loops:=zse) good Tryz.func129 zaki (by kernel_rfl) zai3 (all_cons zafv zaa) (fun a=>by kernel_rfl)
theorem zast:SG ZP sg 131 @zaym:=conE good Tryz.func131 (by kernel_rfl) (by kernel_rfl) (cgc zj7 (cgc zj5 (cgc z5x (cgc z5q cg0)))) (fun a=>by kernel_rfl)
theorem zasu:SG ZP sg 33 @zayn:=conE good Tryz.func33 (by kernel_rfl) (by kernel_rfl) (cgc zhw (cgc zpc (cgc zj6 (cgc zhv (cgc zup (cgc zapg (cgc z58 (cgc zast cg0)))))))) (fun a=>by kernel_rfl)
theorem zasl:SG ZP sg 234 @zaye:=conE good Tryz.func234 (by kernel_rfl) (by kernel_rfl) (cgc zuu (cgc (sgP zarr) cg0)) (fun a=>by kernel_rfl)
theorem zarz:SG ZP sg 154 @zaxz:=conE good Tryz.func154 (by kernel_rfl) (by kernel_rfl) (cgc zj7 (cgc zj5 (cgc zasl cg0))) (fun a=>by kernel_rfl)
theorem zar3:SG ZP sg 309 @zab7:=conE good Tryz.func309 (by kernel_rfl) (by kernel_rfl) (cgc zur cg0) (fun a=>by kernel_rfl)
theorem z6k:fnB ZP 281 Tryz.f281 [7,13]=true:=by kernel_rfl
theorem z4j:CG ZP sg @zadr:=(cgc z4z (cgc zar3 (cgc zur cg0)))
theorem zaf7:zaf ZP sg 0 Tryz.f281 @zkz 7:=zas zxx good Tryz.func281 z6k z4j zaa (fun a=>by kernel_rfl) (by kernel_rfl) (fun _ _=>rfl)
theorem z8c:zaf ZP sg 0 Tryz.f281 @zkz 13:=zas zr3 good Tryz.func281 z6k z4j zaa (fun a=>by kernel_rfl) (by kernel_rfl) (fun _ _=>rfl)
theorem zapq:SG ZP sg 281 @zavx:=conD (loops:=zkz) good Tryz.func281 z6k (by kernel_rfl) z4j (all_cons zaf7 (all_cons z8c zaa)) (fun a=>by kernel_rfl)
theorem zasy:SG ZP sg 203 @zayr:=conE good Tryz.func203 (by kernel_rfl) (by kernel_rfl) (cgc zakb (cgc z56 (cgc zapq cg0))) (fun a=>by kernel_rfl)
theorem zaqt:SG ZP sg 226 @zaw4:=conE good Tryz.func226 (by kernel_rfl) (by kernel_rfl) (cgc z5a cg0) (fun a=>by kernel_rfl)
theorem zasm:SG ZP sg 149 @zayf:=conM (loops:=l0) (ids:=[]) good Tryz.func149 (by kernel_rfl) (by kernel_rfl) (cgc zih (cgc zaqt cg0)) zaa (fun a b=>by kernel_rfl)
theorem zaq5:SG ZP sg 283 @zabl:=conE good Tryz.func283 (by kernel_rfl) (by kernel_rfl) cg0 (fun a=>by kernel_rfl)
theorem zalc:fnB ZP 282 Tryz.f282 [2]=true:=by kernel_rfl
theorem zai5:CG ZP sg @zadi:=(cgc zaq5 cg0)
theorem zafx:zaf ZP sg 0 Tryz.f282 @zsg 2:=zas zxm good Tryz.func282 zalc zai5 zaa (fun a=>by kernel_rfl) (by kernel_rfl) (fun _ _=>rfl)
theorem zaph:SG ZP sg 282 @zavr:=conD (loops:=zsg) good Tryz.func282 zalc (by kernel_rfl) zai5 (all_cons zafx zaa) (fun a=>by kernel_rfl)
theorem zap2:SG ZP sg 204 @zav9:=conE good Tryz.func204 (by kernel_rfl) (by kernel_rfl) (cgc zaph cg0) (fun a=>by kernel_rfl)
theorem zask:SG ZP sg 108 @zayd:=conM (loops:=l0) (ids:=[]) good Tryz.func108 (by kernel_rfl) (by kernel_rfl) (cgc zgm (cgc zpc (cgc zhv (cgc zpb (cgc zasm (cgc zarz (cgc zasy (cgc zap2 cg0)))))))) zaa (fun a b=>by kernel_rfl)
theorem zum:SG ZP sg 29 @zaaw:=conE good Tryz.func29 (by kernel_rfl) (by kernel_rfl) (cgc zhw (cgc zuw (cgc zih (cgc zgm (cgc zui (cgc zj6 (cgc zask (cgc z5v (cgc zun cg0))))))))) (fun a=>by kernel_rfl)
theorem z5n:SG ZP sg 15 @zaa9:=conE good Tryz.func15 (by kernel_rfl) (by kernel_rfl) (cgc z5y (cgc zaqc (cgc zum (cgc zap4 (cgc zasu (cgc zaqu (cgc zaq0 (cgc z4s (cgc zarv cg0))))))))) (fun a=>by kernel_rfl)
theorem zakg:fnB ZP 103 Tryz.f103 [10]=true:=by kernel_rfl
theorem zai9:CG ZP sg @zads:=(cgc zg2 (cgc z5h cg0))
theorem z8d:zaf ZP sg 0 Tryz.f103 @zsk 10:=zas zr4 good Tryz.func103 zakg zai9 zaa (fun a=>by kernel_rfl) (by kernel_rfl) (fun _ _=>rfl)
theorem zo6:SG ZP sg 103 @zavy:=conD (loops:=zsk) good Tryz.func103 zakg (by kernel_rfl) zai9 (all_cons z8d zaa) (fun a=>by kernel_rfl)
theorem zar7:SG ZP sg 155 @zax6:=conE good Tryz.func155 (by kernel_rfl) (by kernel_rfl) (cgc z4t cg0) (fun a=>by kernel_rfl)
theorem zasj:SG ZP sg 313 @zacd:=conE good Tryz.func313 (by kernel_rfl) (by kernel_rfl) cg0 (fun a=>by kernel_rfl)
theorem zarh:SG ZP sg 314 @zabv:=conE good Tryz.func314 (by kernel_rfl) (by kernel_rfl) cg0 (fun a=>by kernel_rfl)
theorem zalf:fnB ZP 288 Tryz.f288 [3]=true:=by kernel_rfl
theorem zaj2:CG ZP sg @zaem:=(cgc zasj (cgc zarh cg0))
theorem zag1:zaf ZP sg 0 Tryz.f288 @zte 3:=zas zyr good Tryz.func288 zalf zaj2 zaa (fun a=>by kernel_rfl) (by kernel_rfl) (fun _ _=>rfl)
theorem zaqi:SG ZP sg 288 @zawq:=conD (loops:=zte) good Tryz.func288 zalf (by kernel_rfl) zaj2 (all_cons zag1 zaa) (fun a=>by kernel_rfl)
theorem zar9:SG ZP sg 216 @zax8:=conE good Tryz.func216 (by kernel_rfl) (by kernel_rfl) (cgc zaqi cg0) (fun a=>by kernel_rfl)
theorem z5z:SG ZP sg 124 @zaxs:=conE good Tryz.func124 (by kernel_rfl) (by kernel_rfl) (cgc zo9 (cgc zar9 cg0)) (fun a=>by kernel_rfl)
theorem zaj9:SG ZP sg 126 @za4b:=conE good Tryz.func126 (by kernel_rfl) (by kernel_rfl) cg0 (fun a=>by kernel_rfl)
theorem zasa:SG ZP sg 338 @zax9:=conE good Tryz.func338 (by kernel_rfl) (by kernel_rfl) cg0 (fun a=>by kernel_rfl)
theorem zash:SG ZP sg 315 @zacb:=conE good Tryz.func315 (by kernel_rfl) (by kernel_rfl) (cgc zasa cg0) (fun a=>by kernel_rfl)
theorem z6l:fnB ZP 290 Tryz.f290 [6,12]=true:=by kernel_rfl
theorem zao1:CG ZP sg @zaoc:=(cgc zash cg0)
theorem zats:zaf ZP sg 0 Tryz.f290 @zp1 6:=zas z66 good Tryz.func290 z6l zao1 zaa (fun a=>by kernel_rfl) (by kernel_rfl) (fun _ _=>rfl)
theorem zafq:zaf ZP sg 0 Tryz.f290 @zp1 12:=zas zxf good Tryz.func290 z6l zao1 zaa (fun a=>by kernel_rfl) (by kernel_rfl) (fun _ _=>rfl)
theorem zaj7:SG ZP sg 290 @z91:=conD (loops:=zp1) good Tryz.func290 z6l (by kernel_rfl) zao1 (all_cons zats (all_cons zafq zaa)) (fun a=>by kernel_rfl)
theorem zald:fnB ZP 286 Tryz.f286 [3]=true:=by kernel_rfl
theorem zaj4:CG ZP sg @zaeo:=(cgc zaj7 cg0)
theorem zag3:zaf ZP sg 0 Tryz.f286 @ztg 3:=zas zyt good Tryz.func286 zald zaj4 zaa (fun a=>by kernel_rfl) (by kernel_rfl) (fun _ _=>rfl)
theorem zaqk:SG ZP sg 286 @zaws:=conD (loops:=ztg) good Tryz.func286 zald (by kernel_rfl) zaj4 (all_cons zag3 zaa) (fun a=>by kernel_rfl)
theorem zar8:SG ZP sg 206 @zax7:=conE good Tryz.func206 (by kernel_rfl) (by kernel_rfl) (cgc zaka (cgc z52 (cgc zaqk cg0))) (fun a=>by kernel_rfl)
theorem zak6:fnB ZP 229 Tryz.f229 [3]=true:=by kernel_rfl
theorem zajn:CG ZP sg @zad7:=(cgc z4x cg0)
theorem zagm:zaf ZP sg 0 Tryz.f229 @zsy 3:=zas zyc good Tryz.func229 zak6 zajn zaa (fun a=>by kernel_rfl) (by kernel_rfl) (fun _ _=>rfl)
theorem zap1:SG ZP sg 229 @zav7:=conD (loops:=zsy) good Tryz.func229 zak6 (by kernel_rfl) zajn (all_cons zagm zaa) (fun a=>by kernel_rfl)
theorem zass:SG ZP sg 151 @zayl:=conE good Tryz.func151 (by kernel_rfl) (by kernel_rfl) (cgc zap1 cg0) (fun a=>by kernel_rfl)
theorem zak0:fnB ZP 207 Tryz.f207 [4]=true:=by kernel_rfl
theorem zaj1:CG ZP sg @zael:=cg0
theorem zag0:zaf ZP sg 0 Tryz.f207 @ztd 4:=zas zyq good Tryz.func207 zak0 zaj1 zaa (fun a=>by kernel_rfl) (by kernel_rfl) (fun _ _=>rfl)
theorem zaqh:SG ZP sg 207 @zawp:=conD (loops:=ztd) good Tryz.func207 zak0 (by kernel_rfl) zaj1 (all_cons zag0 zaa) (fun a=>by kernel_rfl)
theorem zasp:SG ZP sg 112 @zayi:=conE good Tryz.func112 (by kernel_rfl) (by kernel_rfl) (cgc zg2 (cgc zo6 (cgc z5z (cgc zaj9 (cgc zass (cgc zar7 (cgc zar8 (cgc zaqh cg0)))))))) (fun a=>by kernel_rfl)
theorem zak5:fnB ZP 220 Tryz.f220 [2]=true:=by kernel_rfl
theorem zajv:CG ZP sg @zaef:=(cgc zaj7 cg0)
theorem zagu:zaf ZP sg 0 Tryz.f220 @zs7 2:=zas zyk good Tryz.func220 zak5 zajv zaa (fun a=>by kernel_rfl) (by kernel_rfl) (fun _ _=>rfl)
theorem zaqa:SG ZP sg 220 @zaaq:=conD (loops:=zs7) good Tryz.func220 zak5 (by kernel_rfl) zajv (all_cons zagu zaa) (fun a=>by kernel_rfl)
theorem zakk:fnB ZP 133 Tryz.f133 [9]=true:=by kernel_rfl
theorem zaj3:CG ZP sg @zaen:=(cgc zaqa cg0)
theorem zag2:zaf ZP sg 0 Tryz.f133 @ztf 9:=zas zys good Tryz.func133 zakk zaj3 zaa (fun a=>by kernel_rfl) (by kernel_rfl) (fun _ _=>rfl)
theorem zaqj:SG ZP sg 133 @zawr:=conD (loops:=ztf) good Tryz.func133 zakk (by kernel_rfl) zaj3 (all_cons zag2 zaa) (fun a=>by kernel_rfl)
theorem zakj:fnB ZP 132 Tryz.f132 [2]=true:=by kernel_rfl
theorem zajj:CG ZP sg @zad3:=cg0
theorem zagi:zaf ZP sg 0 Tryz.f132 @zsu 2:=zas zx8 good Tryz.func132 zakj zajj zaa (fun a=>by kernel_rfl) (by kernel_rfl) (fun _ _=>rfl)
theorem zug:SG ZP sg 132 @zv5:=conD (loops:=zsu) good Tryz.func132 zakj (by kernel_rfl) zajj (all_cons zagi zaa) (fun a=>by kernel_rfl)
theorem zak7:fnB ZP 230 Tryz.f230 [3]=true:=by kernel_rfl
theorem zajx:CG ZP sg @zaeh:=cg0
theorem zagw:zaf ZP sg 0 Tryz.f230 @zs9 3:=zas zym good Tryz.func230 zak7 zajx zaa (fun a=>by kernel_rfl) (by kernel_rfl) (fun _ _=>rfl)
theorem zaqd:SG ZP sg 230 @zaas:=conD (loops:=zs9) good Tryz.func230 zak7 (by kernel_rfl) zajx (all_cons zagw zaa) (fun a=>by kernel_rfl)
theorem zak1:fnB ZP 208 Tryz.f208 [9]=true:=by kernel_rfl
theorem zaju:CG ZP sg @zaee:=(cgc zug (cgc zaqd (cgc z5e (cgc z5u cg0))))
theorem zagt:zaf ZP sg 0 Tryz.f208 @zs6 9:=zas zyj good Tryz.func208 zak1 zaju zaa (fun a=>by kernel_rfl) (by kernel_rfl) (fun _ _=>rfl)
theorem z5b:SG ZP sg 208 @zawj:=conD (loops:=zs6) good Tryz.func208 zak1 (by kernel_rfl) zaju (all_cons zagt zaa) (fun a=>by kernel_rfl)
theorem z5p:SG ZP sg 113 @zaw9:=conE good Tryz.func113 (by kernel_rfl) (by kernel_rfl) (cgc zg2 (cgc zo6 (cgc z5z (cgc zaj9 (cgc zaqj (cgc z5b cg0)))))) (fun a=>by kernel_rfl)
theorem z6m:fnB ZP 293 Tryz.f293 [3,6]=true:=by kernel_rfl
theorem z4e:CG ZP sg @zadm:=cg0
theorem zy9:zaf ZP sg 0 Tryz.f293 @zku 6:=zas zxs good Tryz.func293 z6m z4e zaa (fun a=>by kernel_rfl) (by kernel_rfl) (fun _ _=>rfl)
theorem zaf2:zaf ZP sg 0 Tryz.f293 @zku 3:=zas zxr good Tryz.func293 z6m z4e (all_cons zy9 zaa) (fun a=>by kernel_rfl) (by kernel_rfl) (fun _ _=>rfl)
theorem zapk:SG ZP sg 293 @z95:=conD (loops:=zku) good Tryz.func293 z6m (by kernel_rfl) z4e (all_cons zaf2 (all_cons zy9 zaa)) (fun a=>by kernel_rfl)
theorem zak8:fnB ZP 235 Tryz.f235 [4]=true:=by kernel_rfl
theorem zajm:CG ZP sg @zad6:=(cgc zug (cgc zapk cg0))
theorem zagl:zaf ZP sg 0 Tryz.f235 @zsx 4:=zas zyb good Tryz.func235 zak8 zajm zaa (fun a=>by kernel_rfl) (by kernel_rfl) (fun _ _=>rfl)
theorem zapz:SG ZP sg 235 @zav5:=conD (loops:=zsx) good Tryz.func235 zak8 (by kernel_rfl) zajm (all_cons zagl zaa) (fun a=>by kernel_rfl)
theorem zasz:SG ZP sg 157 @zays:=conE good Tryz.func157 (by kernel_rfl) (by kernel_rfl) (cgc zg2 (cgc zapz cg0)) (fun a=>by kernel_rfl)
theorem zas0:SG ZP sg 114 @zayt:=conE good Tryz.func114 (by kernel_rfl) (by kernel_rfl) (cgc zg2 (cgc zo6 (cgc z5p (cgc zug (cgc zasz (cgc z5b cg0)))))) (fun a=>by kernel_rfl)
theorem zar6:SG ZP sg 30 @zax5:=conE good Tryz.func30 (by kernel_rfl) (by kernel_rfl) (cgc zg2 (cgc zo6 (cgc z4u (cgc z5w (cgc zasp (cgc z5p (cgc zas0 cg0))))))) (fun a=>by kernel_rfl)
theorem zas7:fnB ZP 61 Tryz.f61 [2,7]=true:=by kernel_rfl
theorem zao6:CG ZP sg @zaoy:=cg0
theorem z8j:zaf ZP sg 0 Tryz.f61 @zp6 7:=zas z71 good Tryz.func61 zas7 zao6 zaa (fun a=>by kernel_rfl) (by kernel_rfl) (fun _ _=>rfl)
theorem zauh:zaf ZP sg 0 Tryz.f61 @zp6 2:=zas z7z good Tryz.func61 zas7 zao6 (all_cons z8j zaa) (fun a=>by kernel_rfl) (by kernel_rfl) (fun _ _=>rfl)
theorem za08:SG ZP sg 61 @zanw:=conD (loops:=zp6) good Tryz.func61 zas7 (by kernel_rfl) zao6 (all_cons zauh (all_cons z8j zaa)) (fun a=>by kernel_rfl)
theorem zrl:fnB ZP 16 Tryz.f16 [6,11,16,21,26,31,36]=true:=by kernel_rfl
theorem zq3:CG ZP sg @zaog:=(cgc za08 cg0)
theorem zatx:zaf ZP sg 0 Tryz.f16 @zej 6:=zas z7b good Tryz.func16 zrl zq3 zaa (fun a=>by kernel_rfl) (by kernel_rfl) (fun _ _=>rfl)
theorem zag4:zaf ZP sg 0 Tryz.f16 @zej 11:=zas zyu good Tryz.func16 zrl zq3 zaa (fun a=>by kernel_rfl) (by kernel_rfl) (fun _ _=>rfl)
theorem zag5:zaf ZP sg 0 Tryz.f16 @zej 16:=zas zyv good Tryz.func16 zrl zq3 zaa (fun a=>by kernel_rfl) (by kernel_rfl) (fun _ _=>rfl)
theorem zag6:zaf ZP sg 0 Tryz.f16 @zej 21:=zas zyw good Tryz.func16 zrl zq3 zaa (fun a=>by kernel_rfl) (by kernel_rfl) (fun _ _=>rfl)
theorem zag7:zaf ZP sg 0 Tryz.f16 @zej 26:=zas zyx good Tryz.func16 zrl zq3 zaa (fun a=>by kernel_rfl) (by kernel_rfl) (fun _ _=>rfl)
theorem zag8:zaf ZP sg 0 Tryz.f16 @zej 31:=zas zyy good Tryz.func16 zrl zq3 zaa (fun a=>by kernel_rfl) (by kernel_rfl) (fun _ _=>rfl)
theorem zag9:zaf ZP sg 0 Tryz.f16 @zej 36:=zas zyz good Tryz.func16 zrl zq3 zaa (fun a=>by kernel_rfl) (by kernel_rfl) (fun _ _=>rfl)
theorem za0t:SG ZP sg 16 @za36:=conD (loops:=zej) good Tryz.func16 zrl (by kernel_rfl) zq3 (all_cons zatx (all_cons zag4 (all_cons zag5 (all_cons zag6 (all_cons zag7 (all_cons zag8 (all_cons zag9 zaa))))))) (fun a=>by kernel_rfl)
theorem za4s:SG ZP sg 6 @zaxi:=conE good Tryz.func6 (by kernel_rfl) (by kernel_rfl) (cgc z5n (cgc za0t (cgc z57 (cgc zum (cgc zar6 cg0))))) (fun a=>by kernel_rfl)
theorem fb_8:fnB ZP 8 Tryz.f8 [7,12]=true:=by kernel_rfl
theorem zao7:CG ZP sg @zao0:=(cgc z5n (cgc z57 (cgc zum (cgc z4y cg0))))
theorem zauj:zaf ZP sg 0 Tryz.f8 @zp7 7:=zas z74 good Tryz.func8 fb_8 zao7 zaa (fun a=>by kernel_rfl) (by kernel_rfl) (fun _ _=>rfl)
theorem zahh:zaf ZP sg 0 Tryz.f8 @zp7 12:=zas zy8 good Tryz.func8 fb_8 zao7 zaa (fun a=>by kernel_rfl) (by kernel_rfl) (fun _ _=>rfl)
theorem za1a:SG ZP sg 8 @za4h:=conD (loops:=zp7) good Tryz.func8 fb_8 (by kernel_rfl) zao7 (all_cons zauj (all_cons zahh zaa)) (fun a=>by kernel_rfl)
end Go.Proofs.YtdahfgialanmpaaGreatDoor
namespace Go.Proofs.YtdahfgialanmpaaGreatDoor
open Ev
open Go (IntKind)
section
variable {α β σ X:Type}
theorem z1g {step:α→Option (α⊕β)}:∀{n m:Nat} {a:α} {b:β},n≤m→za1 step n a=some b→za1 step m a=some b:=by
 intro n
 induction n with
 |zero=>intro m a b _ h;cases h
 |succ n ih=>
  intro m a b hm h
  obtain ⟨m,rfl⟩:∃k,m=k+1:=⟨m-1,by omega⟩
  simp only[za1]at h ⊢
  cases h1:step a with
  |none=>rw[h1]at h;cases h
  |some x=>
   rw[h1]at h
   cases x with
   |inl a'=>exact ih (by omega) h
   |inr b'=>exact h
theorem zbf {step:α→Option (α⊕β)} {a:α} {b:β} (n:Nat) (hn:n≤FUEL) (h:za1 step n a=some b):zae step a=some b:=z1g hn h
theorem zacr {step:α→Option (α⊕β)} (Inv:α→Prop) (μ:α→Nat) (f:α→β)
 (h:∀a,Inv a→(∃a',step a=some (.inl a')∧Inv a'∧μ a'<μ a∧f a'=f a)∨step a=some (.inr (f a))) {a:α} (ha:Inv a) (hm:μ a<FUEL):zae step a=some (f a):=by
 have key:∀n a,Inv a→μ a<n→za1 step n a=some (f a):=by
  intro n
  induction n with
  |zero=>intro a _ h;omega
  |succ n ih=>
   intro a hi hn
   simp only[za1]
   rcases h a hi with ⟨a',h1,h2,h3,h4⟩|h1
   ·rw[h1];simp only;rw[ih a' h2 (by omega),h4]
   ·rw[h1]
 exact key FUEL a ha hm
def zc5 (f:Nat→X→σ→σ⊕β) (fin:σ→β):Nat→List X→σ→β
 |_,[],s=>fin s
 |i,x::l,s=>match f i x s with
  |.inl s'=>zc5 f fin (i+1) l s'
  |.inr b=>b
theorem zbg {step:α→Option (α⊕β)} (Inv:Nat→σ→Prop) (enc:Nat→σ→α) (l:List X) (f:Nat→X→σ→σ⊕β) (fin:σ→β) (hl:l.length<FUEL)
 (h0:∀s,Inv l.length s→step (enc l.length s)=some (.inr (fin s)))
 (h1:∀i x s,l[i]?=some x→Inv i s→(step (enc i s)=some (match f i x s with | .inl s'=>.inl (enc (i+1) s') | .inr b=>.inr b))∧∀s',f i x s=.inl s'→Inv (i+1) s')
 (s:σ) (hs:Inv 0 s):zae step (enc 0 s)=some (zc5 f fin 0 l s):=by
 have key:∀k i s,i+k=l.length→Inv i s→za1 step (k+1) (enc i s)=some (zc5 f fin i (l.drop i) s):=by
  intro k
  induction k with
  |zero=>
   intro i s hi hs
   have:i=l.length:=by omega
   subst this
   rw[List.drop_length]
   simp only[za1,h0 s hs,zc5]
  |succ k ih=>
   intro i s hi hs
   have hlt:i<l.length:=by omega
   obtain ⟨e1,e2⟩:=h1 i l[i] s (List.getElem?_eq_getElem hlt) hs
   rw[List.drop_eq_getElem_cons hlt]
   rw[za1,e1]
   simp only[zc5]
   cases hf:f i l[i] s with
   |inl s'=>simp only;exact ih (i+1) s' (by omega) (e2 s' hf)
   |inr b=>rfl
 have:=key l.length 0 s (by omega) hs
 exact zbf (l.length+1) (by omega) (by simpa using this)
theorem zdn {step:α→Option (α⊕β)} (enc:Nat→σ→α) (l:List X) (f:Nat→X→σ→σ⊕β) (fin:σ→β) (hl:l.length<FUEL)
 (h0:∀s,step (enc l.length s)=some (.inr (fin s)))
 (h1:∀i x s,l[i]?=some x→step (enc i s)=some (match f i x s with | .inl s'=>.inl (enc (i+1) s') | .inr b=>.inr b))
 (s:σ):zae step (enc 0 s)=some (zc5 f fin 0 l s):=
 zbg (fun _ _=>True) enc l f fin hl (fun s _=>h0 s) (fun i x s hx _=>⟨h1 i x s hx,fun _ _=>trivial⟩) s trivial
def fIdx (p:X→Bool) (l:List X):Int:=match l.findIdx? p with|some i=>(i:Int)|none=>-1
def zb8 (f:Nat→X→Int):Nat→List X→Int
 |_,[]=>0
 |i,x::l=>if f i x==0 then zb8 f (i+1) l else f i x
theorem z9x {f:Nat→X→Int} {d:β} {g:Int→β}:∀{l:List X} {i:Nat},zc5 (σ:=Unit) (fun i x _=>if f i x==0 then .inl () else .inr (g (f i x))) (fun _=>d) i l ()=if zb8 f i l==0 then d else g (zb8 f i l):=by
 intro l
 induction l with
 |nil=>intros;rfl
 |cons x l ih=>
  intro i
  simp only[zc5,zb8]
  by_cases h:(f i x==0)=true
  ·simp only[h,if_true];exact ih
  ·have h2:¬f i x=0:=fun e=>h (by simp[e])
   simp[h2]
theorem z03 {f:Nat→X→Int}:∀{l:List X} {i:Nat},zb8 f i l=0↔∀k x,l[k]?=some x→f (i+k) x=0:=by
 intro l
 induction l with
 |nil=>intro i;simp[zb8]
 |cons y l ih=>
  intro i
  simp only[zb8]
  constructor
  ·intro h k x hk
   split at h
   ·rename_i h1
    cases k with
    |zero=>simp at hk;subst hk;simpa using h1
    |succ k=>have:=(ih (i:=i+1)).1 h k x (by simpa using hk);rwa [show i+(k+1)=i+1+k by omega]
   ·rename_i h1;exfalso;apply h1;simp[h]
  ·intro h
   have h0:=h 0 y rfl
   simp only[Nat.add_zero]at h0
   rw[h0]
   simp only[beq_self_eq_true,if_true]
   exact ih.2 (fun k x hk=>by have:=h (k+1) x (by simpa using hk);rwa [show i+(k+1)=i+1+k by omega]at this)
theorem zdk {f:X→σ→σ} {fin:σ→β}:∀{l:List X} {i:Nat} {s:σ},zc5 (fun _ x s=>.inl (f x s)) fin i l s=fin (l.foldl (fun s x=>f x s) s):=by
 intro l
 induction l with
 |nil=>intros;rfl
 |cons x l ih=>intro i s;simp only[zc5,List.foldl_cons];exact ih
end
section
variable {α β σ X:Type} {step:α→Option (α⊕β)}
def zgk (a:α) (g:Int→β) (e:Int):Option (α⊕β):=if e==0 then some (.inl a) else some (.inr (g e))
theorem zdf (a:α) (g:Int→β) (b:Bool) (x y:Int):zgk a g (bif b then x else y)=bif b then zgk a g x else zgk a g y:=by cases b<;>rfl
theorem zd4 (enc:Nat→α) (l:List X) (f:Nat→X→Int) (d:β) (g:Int→β) (hl:l.length<1000000000) (h0:step (enc l.length)=some (.inr d))
 (h1:∀i x,l[i]?=some x→step (enc i)=zgk (enc (i+1)) g (f i x)):zae step (enc 0)=some (if zb8 f 0 l==0 then d else g (zb8 f 0 l)):=by
 have h:=zdn (step:=step) (fun i (_:Unit)=>enc i) l (fun i x _=>if f i x==0 then .inl () else .inr (g (f i x))) (fun _=>d) (by show l.length<18446744073709551616;omega) (fun _=>h0)
  (fun i x _ hx=>by rw[h1 i x hx];unfold zgk;split<;>rfl) ()
 rw[h,z9x]
def zep (p:X→Bool) (g:Nat→X→β) (d:β):Nat→List X→β
 |_,[]=>d
 |i,x::l=>bif p x then g i x else zep p g d (i+1) l
theorem zba (enc:Nat→α) (l:List X) (p:X→Bool) (g:Nat→X→β) (d:β) (hl:l.length<1000000000) (h0:step (enc l.length)=some (.inr d))
 (h1:∀i x,l[i]?=some x→step (enc i)=bif p x then some (.inr (g i x)) else some (.inl (enc (i+1)))):zae step (enc 0)=some (zep p g d 0 l):=by
 have h:=zdn (step:=step) (fun i (_:Unit)=>enc i) l (fun i x _=>if p x then .inr (g i x) else .inl ()) (fun _=>d) (by show l.length<18446744073709551616;omega) (fun _=>h0)
  (fun i x _ hx=>by rw[h1 i x hx];cases p x<;>rfl) ()
 rw[h]
 have key:∀(l:List X) (i:Nat),zc5 (σ:=Unit) (fun i x _=>if p x then .inr (g i x) else .inl ()) (fun _=>d) i l ()=zep p g d i l:=by
  intro l
  induction l with
  |nil=>intro i;rfl
  |cons x l ih=>
   intro i
   simp only[zc5,zep]
   cases p x with
   |true=>rfl
   |false=>exact ih _
 rw[key]
theorem ze3 {p:X→Bool} {g:X→β} {d:β}:∀{l:List X} {i:Nat},zep p (fun _ x=>g x) d i l=(match l.find? p with|some x=>g x|none=>d):=by
 intro l
 induction l with
 |nil=>intros;rfl
 |cons x l ih=>intro i;simp only[zep,List.find?_cons];cases p x with|true=>rfl|false=>exact ih
theorem z6p {p:X→Bool}:∀{l:List X} {i:Nat},zep p (fun i _=>(i:Int)) (-1) i l=(match l.findIdx? p with|some k=>((i+k:Nat):Int)|none=>-1):=by
 intro l
 induction l with
 |nil=>intros;rfl
 |cons x l ih=>
  intro i
  simp only[zep,List.findIdx?_cons]
  cases p x with
  |true=>rfl
  |false=>
   simp only[Bool.false_eq_true,if_false,cond_false]
   rw[ih]
   cases l.findIdx? p with
   |none=>rfl
   |some k=>simp only[Option.map_some];rw[show i+1+k=i+(k+1) by omega]
theorem zc0 {p:X→Bool} {l:List X}:zep p (fun i _=>(i:Int)) (-1) 0 l=fIdx p l:=by
 rw[z6p];unfold fIdx;simp
theorem zcc {γ:Type} {p:X→Bool} {g:Nat→X→β} {d:β} (f:β→γ):∀{l:List X} {i:Nat},f (zep p g d i l)=zep p (fun i x=>f (g i x)) (f d) i l:=by
 intro l
 induction l with
 |nil=>intros;rfl
 |cons x l ih=>intro i;simp only[zep];cases p x with|true=>rfl|false=>exact ih
def zc7 (p:Nat→X→Bool):Nat→List X→Bool
 |_,[]=>true
 |i,x::l=>p i x&&zc7 p (i+1) l
theorem zbc (enc:Nat→α) (l:List X) (p:Nat→X→Bool) (b d:β) (hl:l.length<1000000000) (h0:step (enc l.length)=some (.inr d))
 (h1:∀i x,l[i]?=some x→step (enc i)=bif p i x then some (.inl (enc (i+1))) else some (.inr b)):zae step (enc 0)=some (bif zc7 p 0 l then d else b):=by
 have h:=zdn (step:=step) (fun i (_:Unit)=>enc i) l (fun i x _=>if p i x then .inl () else .inr b) (fun _=>d) (by show l.length<18446744073709551616;omega) (fun _=>h0)
  (fun i x _ hx=>by rw[h1 i x hx];cases p i x<;>rfl) ()
 rw[h]
 have key:∀(l:List X) (i:Nat),zc5 (σ:=Unit) (fun i x _=>if p i x then .inl () else .inr b) (fun _=>d) i l ()=bif zc7 p i l then d else b:=by
  intro l
  induction l with
  |nil=>intro i;rfl
  |cons x l ih=>
   intro i
   simp only[zc5,zc7]
   cases p i x with
   |true=>exact ih _
   |false=>rfl
 rw[key]
theorem zca {p:X→Bool}:∀{l:List X} {i:Nat},zc7 (fun _=>p) i l=l.all p:=by
 intro l
 induction l with
 |nil=>intros;rfl
 |cons x l ih=>intro i;simp only[zc7,List.all_cons];rw[ih]
theorem zjn {p:Nat→X→Bool}:∀{l:List X} {i:Nat},zc7 p i l=true↔∀k x,l[k]?=some x→p (i+k) x=true:=by
 intro l
 induction l with
 |nil=>intro i;simp[zc7]
 |cons y l ih=>
  intro i
  simp only[zc7,Bool.and_eq_true]
  rw[ih]
  constructor
  ·rintro ⟨h0,h⟩ k x hk
   cases k with
   |zero=>simp at hk;subst hk;exact h0
   |succ k=>have:=h k x (by simpa using hk);rwa [show i+(k+1)=i+1+k by omega]
  ·intro h
   exact ⟨h 0 y rfl,fun k x hk=>by have:=h (k+1) x (by simpa using hk);rwa [show i+(k+1)=i+1+k by omega]at this⟩
end
def zbp {X:Type} (l:List X) (i:Nat) (f:X→Bool):Bool:=match i with
 |0=>false
 |j+1=>match l[j]? with|some y=>f y|none=>false
theorem zcn {n:Int} (h1 : -9223372036854775808≤n) (h2:n≤9223372036854775807):wr .i64 n=n:=by
 unfold wr;rw[IntKind.wrap_i64];omega
theorem zap {n:Nat} (h:n<9223372036854775807):wr .i64 ((n:Int)+1)=((n+1:Nat):Int):=by
 rw[zcn (by omega) (by omega)];rfl
theorem zfl {j:Nat} (h:j<1000000000):wr .i64 (((j+1:Nat):Int)-1)=(j:Int):=by
 rw[show ((j+1:Nat):Int)-1=(j:Int) by omega]
 exact zcn (by omega) (by omega)
theorem dpos {j:Nat}:decide ((0:Int)<((j+1:Nat):Int))=true:=by rw[decide_eq_true_eq];omega
theorem zu3:decide ((0:Int)<((0:Nat):Int))=false:=rfl
theorem zai {α:Type} (l:List α) (i:Nat):getI l (i:Int)=l[i]?:=by
 unfold getI;simp
theorem zaie:LIM=1073741824:=rfl
theorem za6:FUEL=18446744073709551616:=rfl
end Go.Proofs.YtdahfgialanmpaaGreatDoor
namespace Go.Proofs.YtdahfgialanmpaaGreatDoor
open Ev
open Go (IntKind)
theorem dlt {i n:Nat} (h:i<n):decide ((i:Int)<(n:Int))=true:=by simpa using h
theorem dge {n:Nat}:decide ((n:Int)<(n:Int))=false:=by simp
theorem k_or {α:Type} (k:Bool→α) (a b:Bool):(bif a then k true else k b)=k (a||b):=by cases a<;>rfl
theorem za7 {α:Type} (k:Bool→α) (a b:Bool):(bif a then k b else k false)=k (a&&b):=by cases a<;>rfl
theorem zh0 {α:Type} (k:Bool→α) (a b:Bool):(bif a then k a else k b)=k (a||b):=by cases a<;>rfl
theorem zc3 {α:Type} (c:Bool) (a b:α):(bif c then some a else some b)=some (bif c then a else b):=by cases c<;>rfl
theorem zayz (b:UInt8):wr .i64 (b.toNat:Int)=(b.toNat:Int):=by
 have:=b.toNat_lt
 exact zcn (by omega) (by omega)
def dcdI (r:List UInt8):Int×Int:=(((dcd r).1:Int),((dcd r).2:Int))
theorem z9a {s:List UInt8} {i:Nat} (hi:i<s.length) (hs:s.length<1000000000):qbd s (i:Int)=some (dcdI (s.drop i)):=by
 obtain ⟨a,r,hr⟩:∃a r,s.drop i=a::r:=⟨s[i],s.drop (i+1),List.drop_eq_getElem_cons hi⟩
 have g:∀k,getI s ((i+k:Nat):Int)=(a::r)[k]?:=fun k=>by rw[zai,←hr,List.getElem?_drop]
 have h0:getI s (i:Int)=some a:=g 0
 have w1:wr .i64 ((i:Int)+1)=((i+1:Nat):Int):=zap (by omega)
 have w2:wr .i64 ((i:Int)+2)=((i+2:Nat):Int):=by rw[zcn (by omega) (by omega)];rfl
 have hl:s.length=i+(r.length+1):=by
  have:=congrArg List.length hr
  simp only[List.length_drop,List.length_cons]at this
  omega
 have ha:=a.toNat_lt
 unfold qbd
 rw[hr]
 unfold dcdI dcd
 have t1:decide (((i+1:Nat):Int)<((i+(r.length+1):Nat):Int))=decide (0<r.length):=by congr 1;simp only[eq_iff_iff];omega
 have t2:decide (((i+2:Nat):Int)<((i+(r.length+1):Nat):Int))=decide (1<r.length):=by congr 1;simp only[eq_iff_iff];omega
 simp -zeta only[h0,w1,w2,g 1,g 2,zayz,k_or,za7,hl,t1,t2]
 dsimp only
 clear hl t1 t2 g hr hi h0 w1 w2 hs
 by_cases c1:32≤a.toNat∧a.toNat<127
 ·have e1:(decide ((32:Int)≤(a.toNat:Int))&&decide ((a.toNat:Int)<127))=true:=by simp;omega
  simp only[e1,cond_true,if_pos c1];rfl
 have e1:(decide ((32:Int)≤(a.toNat:Int))&&decide ((a.toNat:Int)<127))=false:=by simp;omega
 simp only[e1,cond_false,if_neg c1]
 by_cases c2:194≤a.toNat∧a.toNat<224
 ·have e2:(decide ((194:Int)≤(a.toNat:Int))&&decide ((a.toNat:Int)<224))=true:=by simp;omega
  have e3:decide ((224:Int)≤(a.toNat:Int))=false:=by simp;omega
  simp only[e2,e3,Bool.true_and,Bool.false_and,cond_false,if_pos c2]
  rcases r with _|⟨b,r⟩
  ·rfl
  have hb:=b.toNat_lt
  have l1:decide (0<(b::r).length)=true:=by simp
  have g1:(a::b::r)[1]?=some b:=rfl
  have e4:wr .i64 ((wr .i64 ((wr .i64 ((wr .i64 ((a.toNat:Int)-192))*64))+(b.toNat:Int)))-128)=((a.toNat:Int)-192)*64+(b.toNat:Int)-128:=by
   rw[zcn (n:=(a.toNat:Int)-192) (by omega) (by omega),zcn (n:=((a.toNat:Int)-192)*64) (by omega) (by omega),zcn (n:=((a.toNat:Int)-192)*64+(b.toNat:Int)) (by omega) (by omega),zcn (by omega) (by omega)]
  simp only[l1,g1,e4,cond_true]
  by_cases cb:128≤b.toNat
  ·have b1:decide ((128:Int)≤(b.toNat:Int))=true:=by simp;omega
   simp only[b1,cond_true]
   by_cases cb2:b.toNat<192
   ·have b2:decide ((b.toNat:Int)<192)=true:=by simp;omega
    simp only[b2,g1,cond_true,Bool.cond_eq_ite,decide_eq_true_eq]
    rw[if_pos True.intro]
    split
    ·rw[if_pos (by omega)];simp only[Option.some.injEq,Prod.mk.injEq];omega
    ·rw[if_neg (by omega)];rfl
   ·have b2:decide ((b.toNat:Int)<192)=false:=by simp;omega
    simp only[b2,cond_false]
    rw[if_neg (by omega)];rfl
  ·have b1:decide ((128:Int)≤(b.toNat:Int))=false:=by simp;omega
   simp only[b1,cond_false]
   rw[if_neg (by omega)];rfl
 have e2:(decide ((194:Int)≤(a.toNat:Int))&&decide ((a.toNat:Int)<224))=false:=by simp;omega
 simp only[e2,Bool.false_and,cond_false,if_neg c2]
 by_cases c3:224≤a.toNat∧a.toNat<240
 ·have e3:(decide ((224:Int)≤(a.toNat:Int))&&decide ((a.toNat:Int)<240))=true:=by simp;omega
  simp only[e3,Bool.true_and,if_pos c3]
  rcases r with _|⟨b,_|⟨c,r⟩⟩
  ·rfl
  ·rfl
  have hb:=b.toNat_lt
  have hc:=c.toNat_lt
  have l1:decide (1<(b::c::r).length)=true:=by simp
  have g1:(a::b::c::r)[1]?=some b:=rfl
  have g2:(a::b::c::r)[2]?=some c:=rfl
  have e4:wr .i64 ((wr .i64 ((wr .i64 ((wr .i64 ((wr .i64 ((a.toNat:Int)-224))*4096))+(wr .i64 ((wr .i64 ((b.toNat:Int)-128))*64))))+(c.toNat:Int)))-128)=((a.toNat:Int)-224)*4096+((b.toNat:Int)-128)*64+(c.toNat:Int)-128:=by
   rw[zcn (n:=(a.toNat:Int)-224) (by omega) (by omega),zcn (n:=((a.toNat:Int)-224)*4096) (by omega) (by omega),zcn (n:=(b.toNat:Int)-128) (by omega) (by omega),zcn (n:=((b.toNat:Int)-128)*64) (by omega) (by omega),
    zcn (n:=((a.toNat:Int)-224)*4096+((b.toNat:Int)-128)*64) (by omega) (by omega),zcn (n:=((a.toNat:Int)-224)*4096+((b.toNat:Int)-128)*64+(c.toNat:Int)) (by omega) (by omega),zcn (by omega) (by omega)]
  simp only[l1,g1,g2,e4,cond_true]
  by_cases cb:128≤b.toNat
  ·have b1:decide ((128:Int)≤(b.toNat:Int))=true:=by simp;omega
   simp only[b1,cond_true]
   by_cases cb2:b.toNat<192
   ·have b2:decide ((b.toNat:Int)<192)=true:=by simp;omega
    simp only[b2,cond_true]
    by_cases cc:128≤c.toNat
    ·have d1:decide ((128:Int)≤(c.toNat:Int))=true:=by simp;omega
     simp only[d1,cond_true]
     by_cases cc2:c.toNat<192
     ·have d2:decide ((c.toNat:Int)<192)=true:=by simp;omega
      simp only[d2,g1,g2,cond_true,Bool.cond_eq_ite,Bool.and_eq_true,Bool.or_eq_true,decide_eq_true_eq]
      rw[if_pos True.intro]
      split
      ·rw[if_pos (by omega)];simp only[Option.some.injEq,Prod.mk.injEq];omega
      ·rw[if_neg (by omega)];rfl
     ·have d2:decide ((c.toNat:Int)<192)=false:=by simp;omega
      simp only[d2,cond_false]
      rw[if_neg (by omega)];rfl
    ·have d1:decide ((128:Int)≤(c.toNat:Int))=false:=by simp;omega
     simp only[d1,cond_false]
     rw[if_neg (by omega)];rfl
   ·have b2:decide ((b.toNat:Int)<192)=false:=by simp;omega
    simp only[b2,cond_false]
    rw[if_neg (by omega)];rfl
  ·have b1:decide ((128:Int)≤(b.toNat:Int))=false:=by simp;omega
   simp only[b1,cond_false]
   rw[if_neg (by omega)];rfl
 ·have e3:(decide ((224:Int)≤(a.toNat:Int))&&decide ((a.toNat:Int)<240))=false:=by simp;omega
  simp only[e3,Bool.false_and,cond_false,if_neg c3];rfl
theorem zakd (l:List UInt8):(dcd l).2≤l.length:=by
 unfold dcd
 split
 ·simp
 ·rename_i a r
  split
  ·simp
  ·split
   ·split
    ·split<;>simp
    ·simp
   ·split
    ·split
     ·split<;>simp
     ·simp
    ·simp
theorem zaco (n:Nat) {s:List UInt8} {i:Nat} (hi:i<s.length):vldN (n+1) (s.drop i)=if (dcd (s.drop i)).2=0 then false else vldN n (s.drop (i+(dcd (s.drop i)).2)):=by
 have:s.drop i≠[]:=by simp;omega
 simp only[vldN,this,if_false,List.drop_drop]
theorem zal1 {s:List UInt8} (hs:s.length<1000000000):qap s=some (vld s):=by
 have key:∀n i,s.length-i≤n→i≤s.length→za1 zn5 (n+1) (s,(i:Int),())=some (if vldN n (s.drop i) then .inl () else .inr (false,())):=by
  intro n
  induction n with
  |zero=>
   intro i h1 h2
   have:i=s.length:=by omega
   subst this
   simp only[za1,zn5,dge,cond_false,vldN,if_true]
  |succ n ih=>
   intro i h1 h2
   rw[za1]
   by_cases hi:i<s.length
   ·rw[zaco n hi]
    have hle:=zakd (s.drop i)
    rw[List.length_drop]at hle
    simp only[zn5,dlt hi,cond_true,z9a hi hs,dcdI]
    by_cases h0:(dcd (s.drop i)).2=0
    ·simp[h0]
    ·have hb:(((dcd (s.drop i)).2:Int)==0)=false:=by simp;omega
     have hw:wr .i64 ((i:Int)+((dcd (s.drop i)).2:Int))=((i+(dcd (s.drop i)).2:Nat):Int):=by rw[zcn (by omega) (by omega)];rfl
     simp only[hb,cond_false,hw,h0,if_false]
     exact ih _ (by omega) (by omega)
   ·have:i=s.length:=by omega
    subst this
    simp[zn5,vldN]
 unfold qap
 have:=key s.length 0 (by omega) (by omega)
 rw[show ((0:Int))=((0:Nat):Int) from rfl,zbf (s.length+1) (by rw[za6];omega) this]
 simp only[List.drop_zero]
 unfold vld
 cases vldN s.length s<;>rfl
theorem za4w {s:List UInt8} {i:Nat} (hi:i<s.length) (hs:s.length<1000000000):qf s (i:Int)=some ((wid (s.drop i):Nat):Int):=by
 unfold qf wid
 rw[z9a hi hs]
 show some (if (((dcd (s.drop i)).2:Nat):Int)<1 then (1:Int) else (((dcd (s.drop i)).2:Nat):Int))=_
 rw[Option.some.injEq]
 by_cases h:(dcd (s.drop i)).2<1
 ·rw[if_pos h,if_pos (by omega)];rfl
 ·rw[if_neg h,if_neg (by omega)]
theorem za4k {l:List UInt8} (h:l≠[]):1≤wid l∧wid l≤l.length:=by
 have:=zakd l
 have:0<l.length:=List.length_pos_iff.2 h
 unfold wid
 split<;>omega
theorem z4m (n:Nat) {s:List UInt8} {i:Nat} (hi:i<s.length) {out:List UInt8} {gap:Bool}:clnN (n+1) (s.drop i) out gap =
 if blk (dcd (s.drop i)).1 then clnN n (s.drop (i+wid (s.drop i))) out true else clnN n (s.drop (i+wid (s.drop i))) ((if gap&&!(out==[]) then out++[32] else out)++(s.drop i).take (wid (s.drop i))) false:=by
 have:s.drop i≠[]:=by simp;omega
 rw[clnN,if_neg this,List.drop_drop]
theorem za19 {s:List UInt8} (hs:s.length<100000000):qa7 s=some (cln s):=by
 have key:∀n i (out:List UInt8) (gap:Bool),s.length-i≤n→i≤s.length→out.length≤2*i→za1 zn2 (n+1) (s,out,gap,(i:Int),())=some (clnN n (s.drop i) out gap,()):=by
  intro n
  induction n with
  |zero=>
   intro i out gap h1 h2 h3
   have:i=s.length:=by omega
   subst this
   simp only[za1,zn2,dge,cond_false,clnN]
  |succ n ih=>
   intro i out gap h1 h2 h3
   rw[za1]
   by_cases hi:i<s.length
   ·rw[z4m n hi]
    have hw0:=za4k (l:=s.drop i) (by simp;omega)
    rw[List.length_drop]at hw0
    obtain ⟨k,hk⟩:∃k,wid (s.drop i)=k:=⟨_,rfl⟩
    rw[hk]at hw0 ⊢
    have hw:wr .i64 ((i:Int)+(k:Int))=((i+k:Nat):Int):=by rw[zcn (by omega) (by omega)];rfl
    have hb:qal ((dcd (s.drop i)).1:Int)=some (blk (dcd (s.drop i)).1):=by
     unfold qal
     simp -zeta only[k_or]
     simp only[Option.some.injEq,blk]
     rw[Bool.eq_iff_iff];simp;omega
    simp only[zn2,dlt hi,cond_true,z9a hi (show s.length<1000000000 by omega),za4w hi (show s.length<1000000000 by omega),dcdI,hb,hk,hw]
    cases blk (dcd (s.drop i)).1 with
    |true=>simp only[cond_true,if_true];exact ih _ _ _ (by omega) (by omega) (by omega)
    |false=>
     have hc:(decide ((0:Int)≤(i:Int))&&(decide ((i:Int)≤((i+k:Nat):Int))&&decide (((i+k:Nat):Int)≤(s.length:Int))))=true:=by simp;omega
     have ht:(s.take (i+k)).drop i=(s.drop i).take k:=by rw[List.drop_take];congr 1;omega
     simp only[cond_false,hc,cond_true,Int.toNat_natCast,ht,Bool.false_eq_true,if_false]
     have hlen:∀o:List UInt8,o.length≤2*i+1→decide (o.length+((s.drop i).take k).length≤LIM)=true:=fun o ho=>by
      rw[zaie];simp only[List.length_take,List.length_drop,decide_eq_true_eq];omega
     cases hg:(gap&&!(out==[])) with
     |true=>
      simp only[Bool.and_eq_true,Bool.not_eq_true']at hg
      have h32:decide (out.length+([32]:List Nat).length≤LIM)=true:=by rw[zaie];simp;omega
      simp only[hg.1,hg.2,hc,ht,Int.toNat_natCast,cond_true,Bool.not_false,h32,hlen (out++[32]) (by simp;omega),if_true]
      exact ih _ _ _ (by omega) (by omega) (by simp;omega)
     |false=>
      cases gap with
      |false=>
       simp only[cond_false,hlen out (by omega),cond_true,Bool.false_eq_true,if_false]
       exact ih _ _ _ (by omega) (by omega) (by simp;omega)
      |true=>
       simp only[Bool.true_and]at hg
       simp only[cond_true,hg,cond_false,hlen out (by omega),Bool.false_eq_true,if_false]
       exact ih _ _ _ (by omega) (by omega) (by simp;omega)
   ·have:i=s.length:=by omega
    subst this
    simp[zn2,clnN]
 unfold qa7
 have:=key s.length 0 [] false (by omega) (by omega) (by simp)
 rw[show ((0:Int))=((0:Nat):Int) from rfl,zbf (s.length+1) (by rw[za6];omega) this]
 try rfl
end Go.Proofs.YtdahfgialanmpaaGreatDoor
namespace Go.Proofs.YtdahfgialanmpaaGreatDoor
open Ev
open Go (IntKind)
def rng (lo hi n:Int):Bool:=decide (lo≤n)&&decide (n≤hi)
theorem z9g (n:Int):qea n=some (rng 0 109572 n):=by
 unfold qea
 simp -zeta only[k_or,za7]
 try rfl
theorem zamv (n:Int):qdq n=some (rng 0 109572 n):=by
 unfold qdq
 simp -zeta only[k_or,za7]
 try rfl
theorem zami (n:Int):qc7 n=some (rng 1 9999 n):=by
 unfold qc7
 simp -zeta only[k_or,za7]
 try rfl
theorem za2r (n lo hi:Int):qbl n lo hi=some (rng lo hi n):=by
 unfold qbl
 simp -zeta only[k_or,za7]
 try rfl
def zcb (l:List Charge) (i:Nat) (x:Charge):Int:=
 bif zbp l i (fun y=>decide (x.ID≤y.ID)) then 7
 else bif decide (x.ID<1)||decide (99999<x.ID)||decide (x.Patron<1)||decide (9999<x.Patron)||decide (x.Item<1)||decide (9999<x.Item)||!(rng 0 109572 x.Day) then 2
 else bif decide (x.Kind<1)||decide (3<x.Kind) then 1
 else bif decide (x.Amount<1)||decide (100000000<x.Amount)||decide (x.Paid<0)||decide (x.Amount≤x.Paid) then 2 else 0
def za2 (l:List Charge):Int:=bif decide (128<(l.length:Int)) then 13 else zb8 (zcb l) 0 l
theorem z2d {l:List Charge} (hl:l.length<1000000000):zae zll (l,0,())=some (if zb8 (zcb l) 0 l==0 then .inl () else .inr (zb8 (zcb l) 0 l,())):=by
 have h:=zd4 (step:=zll) (fun i=>(l,(i:Int),())) l (zcb l) (.inl ()) (fun e=>.inr (e,())) hl
  (by simp only[zll,dge,cond_false])
  (fun i x hx=>by
   have hi:=(List.getElem?_eq_some_iff.1 hx).1
   have hxm:=List.mem_of_getElem? hx
   unfold zcb
   simp only[zdf]
   rcases i with _|j
   ·simp -zeta only[zll,dlt hi,zai,hx,k_or,za7,zu3,cond_false,cond_true,zbp,zap (show 0<9223372036854775807 by omega),z9g]
    try rfl
   ·have hj:l[j]?=some l[j]:=List.getElem?_eq_getElem (by omega)
    simp -zeta only[zll,dlt hi,zai,hx,k_or,za7,dpos,zfl (show j<1000000000 by omega),hj,cond_false,cond_true,zbp,zap (show j+1<9223372036854775807 by omega),z9g]
    rfl)
 exact h
theorem zal3 {l:List Charge} (hl:l.length<1000000000):qas l=some (za2 l):=by
 unfold qas za2
 rw[z2d hl]
 generalize zb8 (zcb l) 0 l=e
 cases decide (128<(l.length:Int)) with
 |true=>rfl
 |false=>
  by_cases h:e=0
  ·subst h;rfl
  ·have h2:(e==0)=false:=by simpa using h
   simp only[h2,Bool.false_eq_true,if_false,cond_false]
def ze7 (l:List Patron) (i:Nat) (x:Patron):Int:=
 bif decide (x.ID<1)||decide (9999<x.ID) then 2
 else bif zbp l i (fun y=>decide (x.ID≤y.ID)) then 7
 else bif decide (x.Kind<1)||decide (9<x.Kind)||decide (x.Branch<1)||decide (4<x.Branch) then 1
 else bif decide (x.Until<0)||decide (109572<x.Until) then 2
 else bif x.Name==[]||!(vld x.Name)||!(cln x.Name==x.Name) then 3
 else bif decide (200<(x.Name.length:Int)) then 4 else 0
def ze8 (l:List Patron):Int:=bif decide (32<(l.length:Int)) then 13 else zb8 (ze7 l) 0 l
theorem z2f {l:List Patron} (hl:l.length<1000000000) (hn:∀x∈l,x.Name.length<10000000):zae zln (l,0,())=some (if zb8 (ze7 l) 0 l==0 then .inl () else .inr (zb8 (ze7 l) 0 l,())):=by
 have h:=zd4 (step:=zln) (fun i=>(l,(i:Int),())) l (ze7 l) (.inl ()) (fun e=>.inr (e,())) hl
  (by simp only[zln,dge,cond_false])
  (fun i x hx=>by
   have hi:=(List.getElem?_eq_some_iff.1 hx).1
   have hxm:=List.mem_of_getElem? hx
   have hv:=zal1 (s:=x.Name) (by have:=hn x hxm;omega)
   have hc:=za19 (s:=x.Name) (by have:=hn x hxm;omega)
   unfold ze7
   simp only[zdf]
   rcases i with _|j
   ·simp -zeta only[zln,dlt hi,zai,hx,k_or,za7,zu3,cond_false,cond_true,zbp,zap (show 0<9223372036854775807 by omega),hv,hc]
    try rfl
   ·have hj:l[j]?=some l[j]:=List.getElem?_eq_getElem (by omega)
    simp -zeta only[zln,dlt hi,zai,hx,k_or,za7,dpos,zfl (show j<1000000000 by omega),hj,cond_false,cond_true,zbp,zap (show j+1<9223372036854775807 by omega),hv,hc]
    rfl)
 exact h
theorem za2m {l:List Patron} (hl:l.length<1000000000) (hn:∀x∈l,x.Name.length<10000000):qav l=some (ze8 l):=by
 unfold qav ze8
 rw[z2f hl hn]
 generalize zb8 (ze7 l) 0 l=e
 cases decide (32<(l.length:Int)) with
 |true=>rfl
 |false=>
  by_cases h:e=0
  ·subst h;rfl
  ·have h2:(e==0)=false:=by simpa using h
   simp only[h2,Bool.false_eq_true,if_false,cond_false]
def zh2 (l:List Loan) (i:Nat) (x:Loan):Int:=
 bif zbp l i (fun y=>decide (x.Item≤y.Item)) then 7
 else bif decide (x.Item<1)||decide (9999<x.Item)||decide (x.Patron<1)||decide (9999<x.Patron)||decide (x.Out<0)||decide (109572<x.Out)||decide (x.Due<0)||decide (109572<x.Due)||decide (x.Due<x.Out)||decide (x.Renewals<0)||decide (10<x.Renewals) then 2 else 0
def zhf (l:List Loan):Int:=bif decide (64<(l.length:Int)) then 13 else zb8 (zh2 l) 0 l
theorem z2e {l:List Loan} (hl:l.length<1000000000):zae zlm (l,0,())=some (if zb8 (zh2 l) 0 l==0 then .inl () else .inr (zb8 (zh2 l) 0 l,())):=by
 have h:=zd4 (step:=zlm) (fun i=>(l,(i:Int),())) l (zh2 l) (.inl ()) (fun e=>.inr (e,())) hl
  (by simp only[zlm,dge,cond_false])
  (fun i x hx=>by
   have hi:=(List.getElem?_eq_some_iff.1 hx).1
   have hxm:=List.mem_of_getElem? hx
   unfold zh2
   simp only[zdf]
   rcases i with _|j
   ·simp -zeta only[zlm,dlt hi,zai,hx,k_or,za7,zu3,cond_false,cond_true,zbp,zap (show 0<9223372036854775807 by omega)]
    try rfl
   ·have hj:l[j]?=some l[j]:=List.getElem?_eq_getElem (by omega)
    simp -zeta only[zlm,dlt hi,zai,hx,k_or,za7,dpos,zfl (show j<1000000000 by omega),hj,cond_false,cond_true,zbp,zap (show j+1<9223372036854775807 by omega)]
    rfl)
 exact h
theorem za2l {l:List Loan} (hl:l.length<1000000000):qau l=some (zhf l):=by
 unfold qau zhf
 rw[z2e hl]
 generalize zb8 (zh2 l) 0 l=e
 cases decide (64<(l.length:Int)) with
 |true=>rfl
 |false=>
  by_cases h:e=0
  ·subst h;rfl
  ·have h2:(e==0)=false:=by simpa using h
   simp only[h2,Bool.false_eq_true,if_false,cond_false]
def zbl (h:Hold):Int:=
 bif decide (h.ID<1)||decide (99999<h.ID)||!(rng 1 9999 h.Patron)||!(rng 1 9999 h.Record)||!(h.Item==0)&&!(rng 1 9999 h.Item)||decide (h.Pickup<1)||decide (4<h.Pickup)||!(rng 0 109572 h.Placed)||!(h.Got==0)&&!(rng 1 9999 h.Got)||!(rng 0 109572 h.Until)||!(rng 0 109572 h.Asleep)||decide (h.Rank<0)||decide (9<h.Rank) then 2
 else bif decide (h.State<1)||decide (3<h.State) then 1
 else bif !((decide (0<h.Got))==(!(h.State==1)))||!((decide (0<h.Until))==(h.State==3)) then 12 else 0
theorem zamt (h:Hold):qd3 h=some (zbl h):=by
 unfold qd3 zbl
 simp -zeta only[k_or,za7,zami,zamv,←zc3]
 try rfl
def zdg (l:List Hold) (i:Nat) (x:Hold):Int:=
 bif zbp l i (fun y=>decide (x.ID≤y.ID)) then 7 else bif !(zbl x==0) then zbl x else 0
theorem z9j {l:List Hold} (hl:l.length<1000000000):zae zvt (l,0,())=some (if zb8 (zdg l) 0 l==0 then .inl (l,()) else .inr (zb8 (zdg l) 0 l,())):=by
 have h:=zd4 (step:=zvt) (fun i=>(l,(i:Int),())) l (zdg l) (.inl (l,())) (fun e=>.inr (e,())) hl
  (by simp only[zvt,dge,cond_false])
  (fun i x hx=>by
   have hi:=(List.getElem?_eq_some_iff.1 hx).1
   have hxm:=List.mem_of_getElem? hx
   have hs:∀(a:List Hold×Int×Unit) (g:Int→((List Hold×Unit)⊕(Int×Unit))),(bif !(zbl x==0) then zgk a g (zbl x) else zgk a g 0)=bif !(zbl x==0) then some (.inr (g (zbl x))) else some (.inl a):=fun a g=>by
    unfold zgk
    cases zbl x==0<;>rfl
   unfold zdg
   simp only[zdf,hs]
   rcases i with _|j
   ·simp -zeta only[zvt,dlt hi,zai,hx,k_or,za7,zu3,cond_false,cond_true,zbp,zap (show 0<9223372036854775807 by omega),zamt]
    try rfl
   ·have hj:l[j]?=some l[j]:=List.getElem?_eq_getElem (by omega)
    simp -zeta only[zvt,dlt hi,zai,hx,k_or,za7,dpos,zfl (show j<1000000000 by omega),hj,cond_false,cond_true,zbp,zap (show j+1<9223372036854775807 by omega),zamt]
    rfl)
 exact h
def ze4 (x y:Hold):Bool:=x.Patron==y.Patron&&x.Record==y.Record||decide (0<x.Got)&&x.Got==y.Got
theorem z2m {l:List Hold} {i:Nat} {x:Hold} (hl:l.length<1000000000) (hx:l[i]?=some x):zae zlv (l,(i:Int),0,())=some (bif (l.take i).all (fun y=>!(ze4 x y)) then .inl (l,(i:Int),()) else .inr (7,())):=by
 have hi:=(List.getElem?_eq_some_iff.1 hx).1
 have h:=zbc (step:=zlv) (fun k=>(l,(i:Int),(k:Int),())) (l.take i) (fun _ y=>!(ze4 x y)) (.inr (7,())) (.inl (l,(i:Int),())) (by rw[List.length_take];omega)
  (by rw[List.length_take,Nat.min_eq_left (by omega)];simp only[zlv,dge,cond_false])
  (fun k y hy=>by
   have hk:=(List.getElem?_eq_some_iff.1 hy).1
   rw[List.length_take]at hk
   have hy2:l[k]?=some y:=by rw[←hy,List.getElem?_take_of_lt (by omega)]
   simp -zeta only[zlv,dlt (show k<i by omega),zai,hx,hy2,k_or,za7,cond_true,zap (show k<9223372036854775807 by omega)]
   dsimp only
   unfold ze4
   cases (x.Patron==y.Patron&&x.Record==y.Record||decide (0<x.Got)&&x.Got==y.Got)<;>rfl)
 rw[show zae zlv (l,(i:Int),0,())=_ from h,zca]
def zhz (l:List Hold):Bool:=zc7 (fun i x=>(l.take i).all (fun y=>!(ze4 x y))) 0 l
theorem z2l {l:List Hold} (hl:l.length<1000000000):zae zoj (l,0,())=some (bif zhz l then .inl () else .inr (7,())):=by
 have h:=zbc (step:=zoj) (fun i=>(l,(i:Int),())) l (fun i x=>(l.take i).all (fun y=>!(ze4 x y))) (.inr (7,())) (.inl ()) hl
  (by simp only[zoj,dge,cond_false])
  (fun i x hx=>by
   have hi:=(List.getElem?_eq_some_iff.1 hx).1
   simp only[zoj,dlt hi,cond_true,z2m hl hx]
   cases (l.take i).all (fun y=>!(ze4 x y)) with
   |true=>simp only[cond_true,zap (show i<9223372036854775807 by omega)]
   |false=>rfl)
 exact h
def zd0 (l:List Hold):Int:=bif decide (64<(l.length:Int)) then 13 else bif zb8 (zdg l) 0 l==0 then (bif zhz l then 0 else 7) else zb8 (zdg l) 0 l
theorem za4z {l:List Hold} (hl:l.length<1000000000):qm l=some (zd0 l):=by
 unfold qm zd0
 rw[z9j hl]
 cases decide (64<(l.length:Int)) with
 |true=>rfl
 |false=>
  by_cases h:zb8 (zdg l) 0 l=0
  ·simp only[h,beq_self_eq_true,if_true,cond_false,cond_true,z2l hl]
   cases zhz l<;>rfl
  ·have:(zb8 (zdg l) 0 l==0)=false:=by simpa using h
   simp only[this,Bool.false_eq_true,if_false,cond_false]
def zir (r:Rule):Bool:=rng 0 9 r.Patron&&rng 0 9 r.Item&&rng 0 4 r.Branch&&(rng 0 365 r.Days&&rng 0 10 r.Renewals&&rng 0 99 r.Loans)&&(rng 0 1000 r.Fine&&rng 0 30 r.Grace&&rng 0 100000000 r.MaxFine)&&rng 1 60 r.Shelf&&rng 1 60 r.Recall&&rng 0 109572 r.Fixed&&rng 0 9 r.Rank
theorem za2u (r:Rule):qc2 r=some (zir r):=by
 unfold qc2 zir
 simp -zeta only[k_or,za7,za2r]
 try rfl
def zhn (x y:Rule):Bool:=x.Patron==y.Patron&&x.Item==y.Item&&x.Branch==y.Branch
def zgv (l:List Rule) (i:Nat) (x:Rule):Int:=bif !(zir x) then 2 else bif (l.take i).all (fun y=>!(zhn y x)) then 0 else 7
theorem z9i {l:List Rule} {i:Nat} {x:Rule} (hl:l.length<1000000000) (hx:l[i]?=some x):zae zvr (l,(i:Int),0,())=some (bif (l.take i).all (fun y=>!(zhn y x)) then .inl (l,(i:Int),()) else .inr (7,())):=by
 have hi:=(List.getElem?_eq_some_iff.1 hx).1
 have h:=zbc (step:=zvr) (fun k=>(l,(i:Int),(k:Int),())) (l.take i) (fun _ y=>!(zhn y x)) (.inr (7,())) (.inl (l,(i:Int),())) (by rw[List.length_take];omega)
  (by rw[List.length_take,Nat.min_eq_left (by omega)];simp only[zvr,dge,cond_false])
  (fun k y hy=>by
   have hk:=(List.getElem?_eq_some_iff.1 hy).1
   rw[List.length_take]at hk
   have hy2:l[k]?=some y:=by rw[←hy,List.getElem?_take_of_lt (by omega)]
   simp -zeta only[zvr,dlt (show k<i by omega),zai,hx,hy2,k_or,za7,cond_true,zap (show k<9223372036854775807 by omega)]
   dsimp only
   unfold zhn
   cases (y.Patron==x.Patron&&y.Item==x.Item&&y.Branch==x.Branch)<;>rfl)
 rw[show zae zvr (l,(i:Int),0,())=_ from h,zca]
theorem z9h {l:List Rule} (hl:l.length<1000000000):zae z2k (l,0,())=some (if zb8 (zgv l) 0 l==0 then .inl () else .inr (zb8 (zgv l) 0 l,())):=by
 have h:=zd4 (step:=z2k) (fun i=>(l,(i:Int),())) l (zgv l) (.inl ()) (fun e=>.inr (e,())) hl
  (by simp only[z2k,dge,cond_false])
  (fun i x hx=>by
   have hi:=(List.getElem?_eq_some_iff.1 hx).1
   unfold zgv
   simp only[zdf,z2k,dlt hi,zai,hx,cond_true,za2u,z9i hl hx]
   cases zir x with
   |false=>rfl
   |true=>
    simp only[Bool.not_true,cond_false]
    cases (l.take i).all (fun y=>!(zhn y x)) with
    |true=>simp only[cond_true,zap (show i<9223372036854775807 by omega)];rfl
    |false=>rfl)
 exact h
def zgb (l:List Rule):Int:=bif decide (32<(l.length:Int)) then 13 else zb8 (zgv l) 0 l
theorem za4y {l:List Rule} (hl:l.length<1000000000):qk l=some (zgb l):=by
 unfold qk zgb
 rw[z9h hl]
 generalize zb8 (zgv l) 0 l=e
 cases decide (32<(l.length:Int)) with
 |true=>rfl
 |false=>
  by_cases h:e=0
  ·subst h;rfl
  ·have h2:(e==0)=false:=by simpa using h
   simp only[h2,Bool.false_eq_true,if_false,cond_false]
def incr (l:List Int):Bool:=zc7 (fun i x=>!(zbp l i (fun y=>decide (x≤y)))) 0 l
theorem zt8 {X:Type} {p:Nat→X→Bool}:∀{l:List X} {i:Nat},zc7 p (i+1) l=zc7 (fun i=>p (i+1)) i l:=by
 intro l
 induction l with
 |nil=>intros;rfl
 |cons x l ih=>intro i;simp only[zc7];rw[ih]
theorem z60 (l:List Int):incr l=zc7 (fun i x=>!(zbp l (i+1) (fun y=>decide (x≤y)))) 0 l.tail:=by
 cases l with
 |nil=>rfl
 |cons x l=>
  unfold incr
  simp only[zc7,List.tail_cons]
  rw[zt8]
  try rfl
def zci (c:Calendar):Int:=
 bif decide (c.Week<0)||decide (126<c.Week) then 1
 else bif decide (64<(c.Closed.length:Int)) then 13
 else bif c.Closed.all (fun x=>!(decide (x<0)||decide (109572<x))) then (bif incr c.Closed then 0 else 7) else 2
theorem z9k {c:Calendar} (hl:c.Closed.length<1000000000):zae zvv (0,c,())=some (bif c.Closed.all (fun x=>!(decide (x<0)||decide (109572<x))) then .inl (c,()) else .inr (2,())):=by
 have h:=zbc (step:=zvv) (fun i=>((i:Int),c,())) c.Closed (fun _ x=>!(decide (x<0)||decide (109572<x))) (.inr (2,())) (.inl (c,())) hl
  (by simp only[zvv,dge,cond_false])
  (fun i x hx=>by
   have hi:=(List.getElem?_eq_some_iff.1 hx).1
   simp -zeta only[zvv,dlt hi,zai,hx,k_or,za7,cond_true,zap (show i<9223372036854775807 by omega)]
   cases (decide (x<0)||decide (109572<x))<;>rfl)
 rw[show zae zvv (0,c,())=_ from h,zca]
theorem z2p {c:Calendar} (hl:c.Closed.length<1000000000):zae zlw (1,c,())=some (bif incr c.Closed then .inl () else .inr (7,())):=by
 have h:=zbc (step:=zlw) (fun i=>(((i+1:Nat):Int),c,())) c.Closed.tail (fun i x=>!(zbp c.Closed (i+1) (fun y=>decide (x≤y)))) (.inr (7,())) (.inl ()) (by rw[List.length_tail];omega)
  (by
   rw[List.length_tail]
   have:decide (((c.Closed.length-1+1:Nat):Int)<(c.Closed.length:Int))=false:=by rw[decide_eq_false_iff_not];omega
   simp only[zlw,this,cond_false])
  (fun i x hx=>by
   rw[List.getElem?_tail]at hx
   have hi:=(List.getElem?_eq_some_iff.1 hx).1
   have hj:c.Closed[i]?=some c.Closed[i]:=List.getElem?_eq_getElem (by omega)
   simp -zeta only[zlw,dlt hi,zai,hx,cond_true,zfl (show i<1000000000 by omega),hj,zbp,zap (show i+1<9223372036854775807 by omega)]
   cases decide (x≤c.Closed[i])<;>rfl)
 rw[show zae zlw (1,c,())=_ from h,z60]
theorem z9l {c:Calendar} (hl:c.Closed.length<1000000000):qu c=some (zci c):=by
 unfold qu zci
 simp -zeta only[k_or]
 dsimp only
 rw[z9k hl]
 cases (decide (c.Week<0)||decide (126<c.Week)) with
 |true=>rfl
 |false=>
  cases decide (64<(c.Closed.length:Int)) with
  |true=>rfl
  |false=>
   cases c.Closed.all (fun x=>!(decide (x<0)||decide (109572<x))) with
   |false=>rfl
   |true=>
    simp only[cond_false,cond_true,z2p hl]
    cases incr c.Closed<;>rfl
end Go.Proofs.YtdahfgialanmpaaGreatDoor
namespace Go.Proofs.YtdahfgialanmpaaGreatDoor
open Ev
open Go (IntKind)
def zave (state:Int):Bool:=(state==4||state==5||state==8||state==9||state==10)
theorem zlu (state:Int):qfp state=some (zave state):=by
 unfold qfp
 try simp -zeta only[k_or,za7,zh0,zc3,cond_true,cond_false]
 try dsimp only
 try simp only[zc3]
 try rfl
def zh9 (c:Custody):Bool:=(bif decide (c.State<1)||decide (12<c.State)||decide (c.Branch<1)||decide (4<c.Branch) then false
 else
  bif c.State==6 then
   decide (0≤c.Who)&&decide (c.Who≤9999)&&decide (1≤c.To)&&decide (c.To≤4)&&!c.To==c.Branch
  else
   bif !c.To==0 then false
   else bif zave c.State then decide (1≤c.Who)&&decide (c.Who≤9999) else c.Who==0)
theorem zlt (c:Custody):qd5 c=some (zh9 c):=by
 unfold qd5
 try simp -zeta only[k_or,za7,zh0,zc3,cond_true,cond_false,zlu]
 try dsimp only
 try simp only[zc3]
 try rfl
def zia (m:Move):Bool:=(decide (0≤m.Day)&&decide (m.Day≤109572)&&decide (1≤m.Item)&&decide (m.Item≤9999)&&
 decide (1≤m.Kind)&&
 decide (m.Kind≤15)&&
 decide (1≤m.Branch)&&
 decide (m.Branch≤4)&&
 decide (0≤m.Who)&&
 decide (m.Who≤9999))
theorem zoi (m:Move):qe2 m=some (zia m):=by
 unfold qe2
 try simp -zeta only[k_or,za7,zh0,zc3,cond_true,cond_false,zlu,zlt]
 try dsimp only
 try simp only[zc3]
 try rfl
def z9e (kind:Int):(List Int):=(bif kind==1 then [1]
 else
  bif kind==2 then [2,5]
  else
   bif kind==3 then [3,5]
   else
    bif kind==4 then [4,8,9,10]
    else
     bif kind==5||kind==8 then [2,3]
     else
      bif kind==6 then [2,3,5]
      else
       bif kind==7 then [6]
       else
        bif kind==9 then [7]
        else
         bif kind==10 then [3]
         else
          bif kind==11 then [4]
          else
           bif kind==12 then [4,9]
           else
            bif kind==13 then [2,3,5,6,7]
            else bif kind==14 then [11] else bif kind==15 then [1,2,3,11,10] else [])
theorem ztn (kind:Int):qdn kind=some (z9e kind):=by
 unfold qdn
 try simp -zeta only[k_or,za7,zh0,zc3,cond_true,cond_false,zlu,zlt,zoi]
 try dsimp only
 try simp only[zc3]
 try rfl
def zcy (kind:Int):Int:=(bif kind==1||(kind==4||(kind==7||(kind==9||kind==14))) then 2
 else
  bif kind==2 then 3
  else
   bif kind==3 then 4
   else
    bif kind==5 then 5
    else
     bif kind==6 then 6
     else
      bif kind==8 then 7
      else
       bif kind==10 then 8
       else bif kind==11 then 9 else bif kind==12 then 10 else bif kind==13 then 11 else 12)
theorem zzp (kind:Int):qfw kind=some (zcy kind):=by
 unfold qfw
 try simp -zeta only[k_or,za7,zh0,zc3,cond_true,cond_false,zlu,zlt,zoi,ztn]
 try dsimp only
 try simp only[zc3]
 try rfl
def z2h (c:Custody) (m:Move):Bool:=(bif m.Kind==1||(m.Kind==4||(m.Kind==9||m.Kind==14)) then m.Who==0
 else
  bif m.Kind==7 then m.Who==0&&m.Branch==c.To
  else
   bif m.Kind==6 then !m.Branch==c.Branch
   else
    bif m.Kind==3||(m.Kind==5||m.Kind==10) then m.Branch==c.Branch&&decide (1≤m.Who)
    else m.Branch==c.Branch&&m.Who==0)
theorem z9f (c:Custody) (m:Move):qdp c m=some (z2h c m):=by
 unfold qdp
 try simp -zeta only[k_or,za7,zh0,zc3,cond_true,cond_false,zlu,zlt,zoi,ztn,zzp]
 try dsimp only
 try simp only[zc3]
 try rfl
def zvq (branch:Int):Custody:={State:=1,Branch:=branch,Who:=0,To:=0}
theorem zamu (branch:Int):qd4 branch=some (zvq branch):=by
 unfold qd4
 try simp -zeta only[k_or,za7,zh0,zc3,cond_true,cond_false,zlu,zlt,zoi,ztn,zzp,z9f]
 try dsimp only
 try simp only[zc3]
 try rfl
def zhk (u:Custody):Bool:=(u.State==4||u.State==9||u.State==10)
theorem zamw (u:Custody):qdw u=some (zhk u):=by
 unfold qdw
 try simp -zeta only[k_or,za7,zh0,zc3,cond_true,cond_false,zlu,zlt,zoi,ztn,zzp,z9f,zamu]
 try dsimp only
 try simp only[zc3]
 try rfl
end Go.Proofs.YtdahfgialanmpaaGreatDoor
namespace Go.Proofs.YtdahfgialanmpaaGreatDoor
open Ev
open Go (IntKind)
theorem hasX {X:Type} {p:X→Bool}:∀{l:List X} {i:Nat},zep p (fun _ _=>true) false i l=l.any p:=by
 intro l
 induction l with
 |nil=>intros;rfl
 |cons x l ih=>intro i;simp only[zep,List.any_cons];cases p x with|true=>rfl|false=>rw[cond_false,ih,Bool.false_or]
def zif (state kind:Int):Bool:=(z9e kind).any (fun x=>x==state)
theorem zae0 {X:Type} {b:Bool} {x y:List X} {n:Nat} (hx:x.length<n) (hy:y.length<n):(bif b then x else y).length<n:=by cases b<;>assumption
theorem z25 (kind:Int):(z9e kind).length<10:=by
 unfold z9e
 repeat' first|apply zae0|decide
theorem za2k (state kind:Int):qat state kind=some (zif state kind):=by
 unfold qat zif
 rw[ztn]
 have hl:=z25 kind
 generalize z9e kind=l at hl ⊢
 have h:=zba (step:=zn7) (fun i=>(state,l,(i:Int),())) l (fun x=>x==state) (fun _ _=>(.inr (true,()):Unit⊕(Bool×Unit))) (.inl ()) (by omega)
  (by simp only[zn7,dge,cond_false])
  (fun i x hx=>by
   have hi:=(List.getElem?_eq_some_iff.1 hx).1
   simp only[zn7,dlt hi,zai,hx,cond_true,zap (show i<9223372036854775807 by omega)])
 dsimp only
 rw[show zae zn7 (state,l,0,())=_ from h,←hasX (i:=0)]
 have key:∀(l:List Int) (i:Nat),(match some (zep (fun x=>x==state) (fun _ _=>(.inr (true,()):Unit⊕(Bool×Unit))) (.inl ()) i l) with|some (.inl _)=>some false|some (.inr (v,_))=>some v|none=>none)=some (zep (fun x=>x==state) (fun _ _=>true) false i l):=by
  intro l
  induction l with
  |nil=>intro i;rfl
  |cons x l ih=>intro i;simp only[zep];cases x==state with|true=>rfl|false=>exact ih _
 exact key l 0
def za8 (c:Custody) (m:Move):Custody×Int:=
 bif !(zh9 c)||!(zia m) then (⟨0,0,0,0⟩,1)
 else bif !(zif c.State m.Kind) then (⟨0,0,0,0⟩,12)
 else bif m.Kind==3&&c.State==5&&!(m.Who==c.Who) then (⟨0,0,0,0⟩,16)
 else bif !(z2h c m) then (⟨0,0,0,0⟩,1)
 else bif zcy m.Kind==2 then (⟨zcy m.Kind,m.Branch,0,0⟩,0)
 else bif zcy m.Kind==4||(zcy m.Kind==5||zcy m.Kind==8) then (⟨zcy m.Kind,c.Branch,m.Who,0⟩,0)
 else bif zcy m.Kind==6 then (⟨zcy m.Kind,c.Branch,m.Who,m.Branch⟩,0)
 else bif zcy m.Kind==9||zcy m.Kind==10 then (⟨zcy m.Kind,c.Branch,c.Who,0⟩,0)
 else (⟨zcy m.Kind,c.Branch,0,0⟩,0)
theorem zams (c:Custody) (m:Move):qck c m=some (za8 c m):=by
 unfold qck za8
 simp -zeta only[k_or,za7,zh0,zlt,zoi,za2k,z9f,zzp]
 dsimp only
 simp only[zc3]
def zdi:Nat→List Move→Int→Custody→(Custody⊕(Int×Int))
 |_,[],_,c=>.inl c
 |i,x::l,item,c=>bif x.Item==item then (bif (za8 c x).2==0 then zdi (i+1) l item (za8 c x).1 else .inr ((i:Int),(za8 c x).2)) else zdi (i+1) l item c
def zec (branch:Int) (l:List Move) (item:Int):Custody×Int×Int:=
 bif decide (branch<1)||decide (4<branch) then (⟨0,0,0,0⟩,-1,1)
 else match zdi 0 l item (zvq branch) with
  |.inl c=>(c,-1,0)
  |.inr (i,e)=>(⟨0,0,0,0⟩,i,e)
theorem zv1 {β:Type} (item:Int) (fin:Custody→β) (out:Int×Int→β):∀(l:List Move) (i:Nat) (c:Custody),
 zc5 (fun i x c=>bif x.Item==item then (bif (za8 c x).2==0 then .inl (za8 c x).1 else .inr (out ((i:Int),(za8 c x).2))) else .inl c) fin i l c=(match zdi i l item c with | .inl c=>fin c | .inr p=>out p):=by
 intro l
 induction l with
 |nil=>intros;rfl
 |cons x l ih=>
  intro i c
  simp only[zc5,zdi]
  cases x.Item==item with
  |false=>exact ih _ _
  |true=>
   simp only[cond_true]
   cases (za8 c x).2==0 with
   |true=>exact ih _ _
   |false=>rfl
theorem za2j {branch:Int} {l:List Move} {item:Int} (hl:l.length<1000000000):qaq branch l item=some (zec branch l item):=by
 unfold qaq zec
 simp -zeta only[k_or,zamu]
 dsimp only
 have h:=zdn (step:=zn6) (fun i c=>(l,item,(i:Int),(⟨0,0,0,0⟩:Custody),c,())) l
  (fun i x c=>bif x.Item==item then (bif (za8 c x).2==0 then .inl (za8 c x).1 else .inr (.inr ((i:Int),(za8 c x).2,(⟨0,0,0,0⟩:Custody),()))) else .inl c)
  (fun c=>.inl (⟨0,0,0,0⟩,c,())) (by show l.length<18446744073709551616;omega) (fun c=>by simp only[zn6,dge,cond_false])
  (fun i x c hx=>by
   have hi:=(List.getElem?_eq_some_iff.1 hx).1
   simp only[zn6,dlt hi,zai,hx,cond_true,zams,zap (show i<9223372036854775807 by omega)]
   cases x.Item==item with
   |false=>rfl
   |true=>
    simp only[Bool.not_true,cond_false,cond_true]
    obtain ⟨d,e⟩:=za8 c x
    cases he:e==0 with
    |true=>rfl
    |false=>rfl) (zvq branch)
 rw[zv1 item (fun c=>(.inl (⟨0,0,0,0⟩,c,()):(Custody×Custody×Unit)⊕(Int×Int×Custody×Unit))) (fun p=>.inr (p.1,p.2,(⟨0,0,0,0⟩:Custody),()))]at h
 rw[show zae zn6 (l,item,0,(⟨0,0,0,0⟩:Custody),zvq branch,())=_ from h]
 cases (decide (branch<1)||decide (4<branch)) with
 |true=>rfl
 |false=>
  simp only[cond_false]
  cases zdi 0 l item (zvq branch) with
  |inl c=>rfl
  |inr p=>rfl
end Go.Proofs.YtdahfgialanmpaaGreatDoor
namespace Go.Proofs.YtdahfgialanmpaaGreatDoor
open Ev
open Go (IntKind)
theorem zbb {X:Type} (p:X→Bool) (l:List X):(fIdx p l = -1∧l.find? p=none)∨∃(i:Nat) (x:X),fIdx p l=(i:Int)∧l[i]?=some x∧p x=true∧l.find? p=some x:=by
 unfold fIdx
 induction l with
 |nil=>exact .inl ⟨rfl,rfl⟩
 |cons y l ih=>
  simp only[List.findIdx?_cons,List.find?_cons]
  cases hp:p y with
  |true=>exact .inr ⟨0,y,rfl,rfl,hp,rfl⟩
  |false=>
   simp only[Bool.false_eq_true,if_false]
   rcases ih with ⟨h1,h2⟩|⟨i,x,h1,h2,h3,h4⟩
   ·left
    refine ⟨?_,h2⟩
    cases hf:l.findIdx? p with
    |none=>rfl
    |some k=>rw[hf]at h1;simp only at h1;omega
   ·right
    refine ⟨i+1,x,?_,by simpa using h2,h3,h4⟩
    cases hf:l.findIdx? p with
    |none=>rw[hf]at h1;simp only at h1;omega
    |some k=>rw[hf]at h1;simp only[Option.map_some]at h1 ⊢;omega
theorem zpn:decide ((-1:Int)<0)=true:=rfl
theorem ziz {i:Nat}:decide ((i:Int)<0)=false:=by rw[decide_eq_false_iff_not];omega
def getP (l:List Patron) (id:Int):Patron×Bool:=match l.find? (fun p=>p.ID==id) with|some p=>(p,true)|none=>(⟨0,0,0,0,false,[]⟩,false)
def zrm (l:List Loan) (item:Int):Loan×Bool:=match l.find? (fun n=>n.Item==item) with|some n=>(n,true)|none=>(⟨0,0,0,0,0,false⟩,false)
def zim:Hold:=⟨0,0,0,0,0,0,0,0,0,0,0⟩
def zb1 (c:Circ) (item:Int):Hold×Bool:=match c.Holds.find? (fun h=>h.Got==item) with|some h=>(h,true)|none=>(zim,false)
theorem zahu {c:Circ} {item:Int} (hl:c.Items.length<1000000000):qi c item=some (fIdx (fun x=>x.ID==item) c.Items):=by
 unfold qi
 have h:=zba (step:=z2j) (fun i=>(item,(i:Int),c,())) c.Items (fun x=>x.ID==item) (fun i _=>(.inr ((i:Int),()):Unit⊕(Int×Unit))) (.inl ()) hl
  (by simp only[z2j,dge,cond_false])
  (fun i x hx=>by
   have hi:=(List.getElem?_eq_some_iff.1 hx).1
   simp only[z2j,dlt hi,zai,hx,cond_true,zap (show i<9223372036854775807 by omega)])
 rw[show zae z2j (item,0,c,())=_ from h,←zc0]
 have:=zcc (p:=fun x:Item=>x.ID==item) (g:=fun i _=>(.inr ((i:Int),()):Unit⊕(Int×Unit))) (d:=.inl ()) (fun z=>match (some z:Option (Unit⊕(Int×Unit))) with|some (.inl _)=>some (-1)|some (.inr (v,_))=>some v|none=>none) (l:=c.Items) (i:=0)
 exact this.trans ((zcc (p:=fun x:Item=>x.ID==item) (g:=fun i _=>(i:Int)) (d:=-1) (fun z=>some z) (l:=c.Items) (i:=0)).symm)
theorem zqd {c:Circ} {item:Int} (hl:c.Items.length<1000000000):(qi c item=some (-1)∧c.Items.find? (fun x=>x.ID==item)=none)∨
 ∃(i:Nat) (x:Item),qi c item=some (i:Int)∧c.Items[i]?=some x∧x.ID=item∧c.Items.find? (fun x=>x.ID==item)=some x:=by
 rw[zahu hl]
 rcases zbb (fun x:Item=>x.ID==item) c.Items with ⟨h1,h2⟩|⟨i,x,h1,h2,h3,h4⟩
 ·exact .inl ⟨by rw[h1],h2⟩
 ·exact .inr ⟨i,x,by rw[h1],h2,by simpa using h3,h4⟩
theorem za18 {l:List Patron} {id:Int} (hl:l.length<1000000000):qa2 l id=some (fIdx (fun x=>x.ID==id) l):=by
 unfold qa2
 have h:=zba (step:=znz) (fun i=>(l,id,(i:Int),())) l (fun x=>x.ID==id) (fun i _=>(.inr ((i:Int),()):Unit⊕(Int×Unit))) (.inl ()) hl
  (by simp only[znz,dge,cond_false])
  (fun i x hx=>by
   have hi:=(List.getElem?_eq_some_iff.1 hx).1
   simp only[znz,dlt hi,zai,hx,cond_true,zap (show i<9223372036854775807 by omega)])
 rw[show zae znz (l,id,0,())=_ from h,←zc0]
 have:=zcc (p:=fun x:Patron=>x.ID==id) (g:=fun i _=>(.inr ((i:Int),()):Unit⊕(Int×Unit))) (d:=.inl ()) (fun z=>match (some z:Option (Unit⊕(Int×Unit))) with|some (.inl _)=>some (-1)|some (.inr (v,_))=>some v|none=>none) (l:=l) (i:=0)
 exact this.trans ((zcc (p:=fun x:Patron=>x.ID==id) (g:=fun i _=>(i:Int)) (d:=-1) (fun z=>some z) (l:=l) (i:=0)).symm)
theorem zls {l:List Patron} {id:Int} (hl:l.length<1000000000):qcf l id=some (getP l id):=by
 unfold qcf getP
 rw[za18 hl]
 rcases zbb (fun x:Patron=>x.ID==id) l with ⟨h1,h2⟩|⟨i,x,h1,h2,h3,h4⟩
 ·simp only[h1,h2,zpn,cond_true]
 ·simp only[h1,h4,ziz,cond_false,zai,h2]
theorem zal0 {l:List Loan} {id:Int} (hl:l.length<1000000000):qam l id=some (fIdx (fun x=>x.Item==id) l):=by
 unfold qam
 have h:=zba (step:=zn3) (fun i=>(l,id,(i:Int),())) l (fun x=>x.Item==id) (fun i _=>(.inr ((i:Int),()):Unit⊕(Int×Unit))) (.inl ()) hl
  (by simp only[zn3,dge,cond_false])
  (fun i x hx=>by
   have hi:=(List.getElem?_eq_some_iff.1 hx).1
   simp only[zn3,dlt hi,zai,hx,cond_true,zap (show i<9223372036854775807 by omega)])
 rw[show zae zn3 (l,id,0,())=_ from h,←zc0]
 have:=zcc (p:=fun x:Loan=>x.Item==id) (g:=fun i _=>(.inr ((i:Int),()):Unit⊕(Int×Unit))) (d:=.inl ()) (fun z=>match (some z:Option (Unit⊕(Int×Unit))) with|some (.inl _)=>some (-1)|some (.inr (v,_))=>some v|none=>none) (l:=l) (i:=0)
 exact this.trans ((zcc (p:=fun x:Loan=>x.Item==id) (g:=fun i _=>(i:Int)) (d:=-1) (fun z=>some z) (l:=l) (i:=0)).symm)
theorem za20 {l:List Loan} {id:Int} (hl:l.length<1000000000):qd7 l id=some (zrm l id):=by
 unfold qd7 zrm
 rw[zal0 hl]
 rcases zbb (fun x:Loan=>x.Item==id) l with ⟨h1,h2⟩|⟨i,x,h1,h2,h3,h4⟩
 ·simp only[h1,h2,zpn,cond_true]
 ·simp only[h1,h4,ziz,cond_false,zai,h2]
theorem za2i {c:Circ} {item:Int} (hl:c.Holds.length<1000000000):qao c item=some (zb1 c item):=by
 unfold qao zb1
 have h:=zba (step:=zn4) (fun i=>(item,(i:Int),c,zim,())) c.Holds (fun x=>x.Got==item) (fun _ x=>(.inr (true,x,()):(Hold×Unit)⊕(Bool×Hold×Unit))) (.inl (zim,())) hl
  (by simp only[zn4,dge,cond_false])
  (fun i x hx=>by
   have hi:=(List.getElem?_eq_some_iff.1 hx).1
   simp only[zn4,dlt hi,zai,hx,cond_true,zap (show i<9223372036854775807 by omega)])
 rw[show zae zn4 (item,0,c,(⟨0,0,0,0,0,0,0,0,0,0,0⟩:Hold),())=_ from h,ze3]
 cases c.Holds.find? (fun x=>x.Got==item)<;>rfl
def zd1 (c:Circ) (i:Nat) (x:Item):Bool:=
 !(decide (x.ID<1)||decide (9999<x.ID)||zbp c.Items i (fun y=>decide (x.ID≤y.ID))||decide (x.Record<1)||decide (9999<x.Record)||decide (x.Branch<1)||decide (4<x.Branch))&&
 !(decide (x.Kind<1)||decide (9<x.Kind)||decide (x.Price<0)||decide (100000000<x.Price)||decide (200<(x.Call.length:Int))||!(vld x.Call))&&
 !(!((zec x.Branch c.Moves x.ID).2.2==0)||!(zbv (zec x.Branch c.Moves x.ID).1 x.Custody))
def ze5 (c:Circ):Bool:=!(decide (64<(c.Items.length:Int))||decide (2000<(c.Moves.length:Int)))&&(zc7 (zd1 c) 0 c.Items&&c.Moves.all (fun m=>(c.Items.find? (fun x=>x.ID==m.Item)).isSome))
structure Short (c:Circ):Prop where
 items:c.Items.length<1000000000
 patrons:c.Patrons.length<1000000000
 loans:c.Loans.length<1000000000
 holds:c.Holds.length<1000000000
 charges:c.Charges.length<1000000000
 rules:c.Rules.length<1000000000
 moves:c.Moves.length<1000000000
 call:∀x∈c.Items,x.Call.length<10000000
 name:∀x∈c.Patrons,x.Name.length<10000000
 cal0:c.Cals.x0.Closed.length<1000000000
 cal1:c.Cals.x1.Closed.length<1000000000
 cal2:c.Cals.x2.Closed.length<1000000000
 cal3:c.Cals.x3.Closed.length<1000000000
theorem z2b {c:Circ} (hs:Short c):zae zli (0,c,())=some (bif zc7 (zd1 c) 0 c.Items then .inl (c,()) else .inr (false,())):=by
 have h:=zbc (step:=zli) (fun i=>((i:Int),c,())) c.Items (zd1 c) (.inr (false,())) (.inl (c,())) hs.items
  (by simp only[zli,dge,cond_false])
  (fun i x hx=>by
   have hi:=(List.getElem?_eq_some_iff.1 hx).1
   have hm:=List.mem_of_getElem? hx
   have hv:=zal1 (s:=x.Call) (by have:=hs.call x hm;omega)
   have hr:=za2j (branch:=x.Branch) (item:=x.ID) hs.moves
   unfold zd1
   rcases i with _|j
   ·simp -zeta only[zli,dlt hi,zai,hx,k_or,za7,zu3,cond_false,cond_true,zbp,zap (show 0<9223372036854775807 by omega),hv,hr]
    dsimp only
    generalize (decide (x.ID<1)||decide (9999<x.ID)||false||decide (x.Record<1)||decide (9999<x.Record)||decide (x.Branch<1)||decide (4<x.Branch))=b1
    generalize (decide (x.Kind<1)||decide (9<x.Kind)||decide (x.Price<0)||decide (100000000<x.Price)||decide (200<(x.Call.length:Int))||!(vld x.Call))=b2
    generalize (!((zec x.Branch c.Moves x.ID).2.2==0)||!(zbv (zec x.Branch c.Moves x.ID).1 x.Custody))=b3
    cases b1<;>cases b2<;>cases b3<;>rfl
   ·have hj:c.Items[j]?=some c.Items[j]:=List.getElem?_eq_getElem (by omega)
    have:=hs.items
    simp -zeta only[zli,dlt hi,zai,hx,k_or,za7,dpos,zfl (show j<1000000000 by omega),hj,cond_false,cond_true,Bool.true_and,zbp,zap (show j+1<9223372036854775807 by omega),hv,hr]
    dsimp only
    generalize (decide (x.ID<1)||decide (9999<x.ID)||decide (x.ID≤c.Items[j].ID)||decide (x.Record<1)||decide (9999<x.Record)||decide (x.Branch<1)||decide (4<x.Branch))=b1
    generalize (decide (x.Kind<1)||decide (9<x.Kind)||decide (x.Price<0)||decide (100000000<x.Price)||decide (200<(x.Call.length:Int))||!(vld x.Call))=b2
    generalize (!((zec x.Branch c.Moves x.ID).2.2==0)||!(zbv (zec x.Branch c.Moves x.ID).1 x.Custody))=b3
    cases b1<;>cases b2<;>cases b3<;>rfl)
 exact h
theorem zvn {c:Circ} (hs:Short c):zae zgr (0,c,())=some (bif c.Moves.all (fun m=>(c.Items.find? (fun x=>x.ID==m.Item)).isSome) then .inl () else .inr (false,())):=by
 have h:=zbc (step:=zgr) (fun i=>((i:Int),c,())) c.Moves (fun _ m=>(c.Items.find? (fun x=>x.ID==m.Item)).isSome) (.inr (false,())) (.inl ()) hs.moves
  (by simp only[zgr,dge,cond_false])
  (fun i x hx=>by
   have hi:=(List.getElem?_eq_some_iff.1 hx).1
   have:=hs.moves
   simp only[zgr,dlt hi,zai,hx,cond_true,zap (show i<9223372036854775807 by omega)]
   rcases zqd (item:=x.Item) hs.items with ⟨h1,h2⟩|⟨k,y,h1,h2,h3,h4⟩
   ·simp only[h1,h2,zpn,cond_true,Option.isSome_none,cond_false]
   ·simp only[h1,h4,ziz,cond_false,Option.isSome_some,cond_true])
 rw[show zae zgr (0,c,())=_ from h,zca]
theorem za2d {c:Circ} (hs:Short c):qae c=some (ze5 c):=by
 unfold qae ze5
 simp -zeta only[k_or]
 dsimp only
 rw[z2b hs]
 cases (decide (64<(c.Items.length:Int))||decide (2000<(c.Moves.length:Int))) with
 |true=>rfl
 |false=>
  cases zc7 (zd1 c) 0 c.Items with
  |false=>rfl
  |true=>
   simp only[cond_false,cond_true,zvn hs]
   cases c.Moves.all (fun m=>(c.Items.find? (fun x=>x.ID==m.Item)).isSome)<;>rfl
def zhe (c:Circ) (n:Loan):Bool:=match c.Items.find? (fun x=>x.ID==n.Item) with
 |some x=>!(!(getP c.Patrons n.Patron).2||!(zhk x.Custody)||!(x.Custody.Who==n.Patron))
 |none=>false
def zfz (c:Circ):Bool:=c.Loans.all (zhe c)&&c.Items.all (fun x=>(zrm c.Loans x.ID).2==zhk x.Custody)
theorem za2c {c:Circ} (hs:Short c):qad c=some (zfz c):=by
 have h1:=zbc (step:=zlh) (fun i=>((i:Int),c,())) c.Loans (fun _=>zhe c) (.inr (false,())) (.inl (c,())) hs.loans
  (by simp only[zlh,dge,cond_false])
  (fun i x hx=>by
   have hi:=(List.getElem?_eq_some_iff.1 hx).1
   have:=hs.loans
   unfold zhe
   rcases zqd (item:=x.Item) hs.items with ⟨h1,h2⟩|⟨k,y,h1,h2,h3,h4⟩
   ·simp -zeta only[zlh,dlt hi,zai,hx,cond_true,k_or,zls hs.patrons,h1,h2,zpn,Bool.true_or]
    try rfl
   ·simp -zeta only[zlh,dlt hi,zai,hx,cond_true,k_or,zls hs.patrons,h1,h2,h4,ziz,Bool.false_or,zamw,zap (show i<9223372036854775807 by omega)]
    dsimp only
    cases (!(getP c.Patrons x.Patron).2||!(zhk y.Custody)||!(y.Custody.Who==x.Patron))<;>rfl)
 have h2:=zbc (step:=zh6) (fun i=>((i:Int),c,())) c.Items (fun _ x=>(zrm c.Loans x.ID).2==zhk x.Custody) (.inr (false,())) (.inl ()) hs.items
  (by simp only[zh6,dge,cond_false])
  (fun i x hx=>by
   have hi:=(List.getElem?_eq_some_iff.1 hx).1
   have:=hs.items
   simp only[zh6,dlt hi,zai,hx,cond_true,za20 hs.loans,zamw,zap (show i<9223372036854775807 by omega)]
   cases (zrm c.Loans x.ID).2==zhk x.Custody<;>rfl)
 unfold qad zfz
 rw[show zae zlh (0,c,())=_ from h1,zca]
 cases c.Loans.all (zhe c) with
 |false=>rfl
 |true=>
  simp only[cond_true]
  rw[show zae zh6 (0,c,())=_ from h2,zca]
  cases c.Items.all (fun x=>(zrm c.Loans x.ID).2==zhk x.Custody)<;>rfl
def zf9 (c:Circ) (h:Hold):Bool:=
 !(!(getP c.Patrons h.Patron).2||decide (c.NextHold≤h.ID))&&(h.State==1||(match c.Items.find? (fun x=>x.ID==h.Got) with
  |some x=>!(!(x.Record==h.Record))&&!(h.State==3&&(!(x.Custody.State==5)||!(x.Custody.Branch==h.Pickup)||!(x.Custody.Who==h.Patron)))&&
   !(h.State==2&&(!(x.Custody.State==6)||!(x.Custody.To==h.Pickup)||!(x.Custody.Who==h.Patron)))
  |none=>false))
def zf2 (c:Circ) (x:Item):Bool:=!(x.Custody.State==5)||!(!(zb1 c x.ID).2||!((zb1 c x.ID).1.State==3))
def zfx (c:Circ):Bool:=c.Holds.all (zf9 c)&&c.Items.all (zf2 c)
theorem za2e {c:Circ} (hs:Short c):qaf c=some (zfx c):=by
 have h1:=zbc (step:=zlj) (fun i=>((i:Int),c,())) c.Holds (fun _=>zf9 c) (.inr (false,())) (.inl (c,())) hs.holds
  (by simp only[zlj,dge,cond_false])
  (fun i x hx=>by
   have hi:=(List.getElem?_eq_some_iff.1 hx).1
   have:=hs.holds
   unfold zf9
   rcases zqd (item:=x.Got) hs.items with ⟨h1,h2⟩|⟨k,y,h1,h2,h3,h4⟩
   ·simp -zeta only[zlj,dlt hi,zai,hx,cond_true,k_or,zls hs.patrons,h1,h2,zpn,zap (show i<9223372036854775807 by omega)]
    dsimp only
    cases (!(getP c.Patrons x.Patron).2||decide (c.NextHold≤x.ID)) with
    |true=>rfl
    |false=>cases x.State==1<;>rfl
   ·simp -zeta only[zlj,dlt hi,zai,hx,cond_true,k_or,za7,zls hs.patrons,h1,h2,h4,ziz,cond_false,zap (show i<9223372036854775807 by omega)]
    dsimp only
    generalize (!(getP c.Patrons x.Patron).2||decide (c.NextHold≤x.ID))=b1
    generalize (x.State==1)=b2
    generalize (!(y.Record==x.Record))=b3
    generalize (!(y.Custody.State==5)||!(y.Custody.Branch==x.Pickup)||!(y.Custody.Who==x.Patron))=b4
    generalize (!(y.Custody.State==6)||!(y.Custody.To==x.Pickup)||!(y.Custody.Who==x.Patron))=b5
    generalize (x.State==3)=b6
    generalize (x.State==2)=b7
    cases b1<;>cases b2<;>cases b3<;>cases b4<;>cases b5<;>cases b6<;>cases b7<;>rfl)
 have h2:=zbc (step:=zh7) (fun i=>((i:Int),c,())) c.Items (fun _=>zf2 c) (.inr (false,())) (.inl ()) hs.items
  (by simp only[zh7,dge,cond_false])
  (fun i x hx=>by
   have hi:=(List.getElem?_eq_some_iff.1 hx).1
   have:=hs.items
   unfold zf2
   simp -zeta only[zh7,dlt hi,zai,hx,cond_true,k_or,za2i hs.holds,zap (show i<9223372036854775807 by omega)]
   dsimp only
   cases x.Custody.State==5 with
   |false=>rfl
   |true=>
    generalize (!(zb1 c x.ID).2||!((zb1 c x.ID).1.State==3))=b
    cases b<;>rfl)
 unfold qaf zfx
 rw[show zae zlj (0,c,())=_ from h1,zca]
 cases c.Holds.all (zf9 c) with
 |false=>rfl
 |true=>
  simp only[cond_true]
  rw[show zae zh7 (0,c,())=_ from h2,zca]
  cases c.Items.all (zf2 c)<;>rfl
end Go.Proofs.YtdahfgialanmpaaGreatDoor
namespace Go.Proofs.YtdahfgialanmpaaGreatDoor
open Ev
open Go (IntKind)
def zg1 (c:Circ):Bool:=zci c.Cals.x0==0&&(zci c.Cals.x1==0&&(zci c.Cals.x2==0&&zci c.Cals.x3==0))
theorem z2c {c:Circ} (hs:Short c):zae zio (0,c,())=some (bif zg1 c then .inl (c,()) else .inr (false,())):=by
 have s0:zio (0,c,())=bif zci c.Cals.x0==0 then some (.inl (1,c,())) else some (.inr (.inr (false,()))):=by
  show (match qu c.Cals.x0 with|some r=>(bif !(r==0) then (some (.inr (.inr (false,()))):Option ((Int×Circ×Unit)⊕((Circ×Unit)⊕(Bool×Unit)))) else some (.inl (1,c,())))|none=>none)=_
  rw[z9l hs.cal0];dsimp only;cases zci c.Cals.x0==0<;>rfl
 have s1:zio (1,c,())=bif zci c.Cals.x1==0 then some (.inl (2,c,())) else some (.inr (.inr (false,()))):=by
  show (match qu c.Cals.x1 with|some r=>(bif !(r==0) then (some (.inr (.inr (false,()))):Option ((Int×Circ×Unit)⊕((Circ×Unit)⊕(Bool×Unit)))) else some (.inl (2,c,())))|none=>none)=_
  rw[z9l hs.cal1];dsimp only;cases zci c.Cals.x1==0<;>rfl
 have s2:zio (2,c,())=bif zci c.Cals.x2==0 then some (.inl (3,c,())) else some (.inr (.inr (false,()))):=by
  show (match qu c.Cals.x2 with|some r=>(bif !(r==0) then (some (.inr (.inr (false,()))):Option ((Int×Circ×Unit)⊕((Circ×Unit)⊕(Bool×Unit)))) else some (.inl (3,c,())))|none=>none)=_
  rw[z9l hs.cal2];dsimp only;cases zci c.Cals.x2==0<;>rfl
 have s3:zio (3,c,())=bif zci c.Cals.x3==0 then some (.inl (4,c,())) else some (.inr (.inr (false,()))):=by
  show (match qu c.Cals.x3 with|some r=>(bif !(r==0) then (some (.inr (.inr (false,()))):Option ((Int×Circ×Unit)⊕((Circ×Unit)⊕(Bool×Unit)))) else some (.inl (4,c,())))|none=>none)=_
  rw[z9l hs.cal3];dsimp only;cases zci c.Cals.x3==0<;>rfl
 have s4:zio (4,c,())=some (.inr (.inl (c,()))):=rfl
 refine zbf 5 (by rw[za6];omega) ?_
 unfold zg1
 simp only[za1,s0,s1,s2,s3,s4]
 cases zci c.Cals.x0==0 with
 |false=>rfl
 |true=>
  simp only[cond_true,za1,s1]
  cases zci c.Cals.x1==0 with
  |false=>rfl
  |true=>
   simp only[cond_true,za1,s2]
   cases zci c.Cals.x2==0 with
   |false=>rfl
   |true=>
    simp only[cond_true,za1,s3]
    cases zci c.Cals.x3==0 with
    |false=>rfl
    |true=>simp only[cond_true,za1,s4];rfl
def zey (c:Circ) (x:Charge):Bool:=!(!(getP c.Patrons x.Patron).2||decide (c.NextCharge≤x.ID))
theorem zvp {c:Circ} (hs:Short c):zae zgt (0,c,())=some (bif c.Charges.all (zey c) then .inl (c,()) else .inr (false,())):=by
 have h:=zbc (step:=zgt) (fun i=>((i:Int),c,())) c.Charges (fun _=>zey c) (.inr (false,())) (.inl (c,())) hs.charges
  (by simp only[zgt,dge,cond_false])
  (fun i x hx=>by
   have hi:=(List.getElem?_eq_some_iff.1 hx).1
   have:=hs.charges
   unfold zey
   simp -zeta only[zgt,dlt hi,zai,hx,cond_true,k_or,zls hs.patrons,zap (show i<9223372036854775807 by omega)]
   dsimp only
   cases (!(getP c.Patrons x.Patron).2||decide (c.NextCharge≤x.ID))<;>rfl)
 rw[show zae zgt (0,c,())=_ from h,zca]
def zp8 (c:Circ):Bool:=!(decide (c.Today<0)||decide (109572<c.Today)||decide (c.NextHold<1)||decide (100000<c.NextHold)||decide (c.NextCharge<1)||decide (100000<c.NextCharge))
def zks (c:Circ):Bool:=!(!(ze8 c.Patrons==0)||!(zhf c.Loans==0)||!(zd0 c.Holds==0)||!(za2 c.Charges==0)||!(zgb c.Rules==0))
def zon (c:Circ):Bool:=zp8 c&&(zks c&&(zg1 c&&(c.Charges.all (zey c)&&(ze5 c&&(zfz c&&zfx c)))))
theorem za2h {c:Circ} (hs:Short c):qak c=some (zon c):=by
 unfold qak zon zp8 zks
 simp -zeta only[k_or,za7,za2m hs.patrons hs.name,za2l hs.loans,za4z hs.holds,zal3 hs.charges,za4y hs.rules]
 dsimp only
 rw[z2c hs]
 generalize (decide (c.Today<0)||decide (109572<c.Today)||decide (c.NextHold<1)||decide (100000<c.NextHold)||decide (c.NextCharge<1)||decide (100000<c.NextCharge))=b1
 generalize (!(ze8 c.Patrons==0)||!(zhf c.Loans==0)||!(zd0 c.Holds==0)||!(za2 c.Charges==0)||!(zgb c.Rules==0))=b2
 cases b1 with
 |true=>rfl
 |false=>
  cases b2 with
  |true=>rfl
  |false=>
   cases zg1 c with
   |false=>rfl
   |true=>
    simp only[cond_false,cond_true,zvp hs]
    cases c.Charges.all (zey c) with
    |false=>rfl
    |true=>
     simp -zeta only[cond_false,cond_true,za2d hs,za2c hs,za2e hs,za7]
     try dsimp only
     cases ze5 c<;>cases zfz c<;>cases zfx c<;>rfl
def zl9 (c:Circ):Bool:=
 !(decide (10<(c.Items.length:Int))||decide (8<(c.Patrons.length:Int))||decide (12<(c.Holds.length:Int))||decide (12<(c.Loans.length:Int))||decide (30<(c.Charges.length:Int))||decide (10<(c.Rules.length:Int))||decide (200<(c.Moves.length:Int)))&&
 (c.Items.all (fun x=>!(decide (300<(x.Call.length:Int))))&&(c.Patrons.all (fun x=>!(decide (300<(x.Name.length:Int))))&&
  (!(decide (20<(c.Cals.x0.Closed.length:Int)))&&(!(decide (20<(c.Cals.x1.Closed.length:Int)))&&(!(decide (20<(c.Cals.x2.Closed.length:Int)))&&!(decide (20<(c.Cals.x3.Closed.length:Int))))))))
theorem za4v (c:Circ):qa c=some (zl9 c):=by
 unfold qa zl9
 simp -zeta only[k_or,za7]
 dsimp only
 cases hb:(decide (10<(c.Items.length:Int))||decide (8<(c.Patrons.length:Int))||decide (12<(c.Holds.length:Int))||decide (12<(c.Loans.length:Int))||decide (30<(c.Charges.length:Int))||decide (10<(c.Rules.length:Int))||decide (200<(c.Moves.length:Int))) with
 |true=>rfl
 |false=>
  simp only[Bool.or_eq_false_iff,decide_eq_false_iff_not]at hb
  have h1:=zbc (step:=z18) (fun i=>((i:Int),c,())) c.Items (fun _ x=>!(decide (300<(x.Call.length:Int)))) (.inr (false,())) (.inl (c,())) (by omega)
   (by simp only[z18,dge,cond_false])
   (fun i x hx=>by
    have hi:=(List.getElem?_eq_some_iff.1 hx).1
    simp only[z18,dlt hi,zai,hx,cond_true,zap (show i<9223372036854775807 by omega)]
    cases decide (300<(x.Call.length:Int))<;>rfl)
  have h2:=zbc (step:=z19) (fun i=>((i:Int),c,())) c.Patrons (fun _ x=>!(decide (300<(x.Name.length:Int)))) (.inr (false,())) (.inl (c,())) (by omega)
   (by simp only[z19,dge,cond_false])
   (fun i x hx=>by
    have hi:=(List.getElem?_eq_some_iff.1 hx).1
    simp only[z19,dlt hi,zai,hx,cond_true,zap (show i<9223372036854775807 by omega)]
    cases decide (300<(x.Name.length:Int))<;>rfl)
  have h3:zae zin (0,c,())=some (bif (!(decide (20<(c.Cals.x0.Closed.length:Int)))&&(!(decide (20<(c.Cals.x1.Closed.length:Int)))&&(!(decide (20<(c.Cals.x2.Closed.length:Int)))&&!(decide (20<(c.Cals.x3.Closed.length:Int)))))) then .inl () else .inr (false,())):=by
   have s0:zin (0,c,())=bif decide (20<(c.Cals.x0.Closed.length:Int)) then some (.inr (.inr (false,()))) else some (.inl (1,c,())):=rfl
   have s1:zin (1,c,())=bif decide (20<(c.Cals.x1.Closed.length:Int)) then some (.inr (.inr (false,()))) else some (.inl (2,c,())):=rfl
   have s2:zin (2,c,())=bif decide (20<(c.Cals.x2.Closed.length:Int)) then some (.inr (.inr (false,()))) else some (.inl (3,c,())):=rfl
   have s3:zin (3,c,())=bif decide (20<(c.Cals.x3.Closed.length:Int)) then some (.inr (.inr (false,()))) else some (.inl (4,c,())):=rfl
   have s4:zin (4,c,())=some (.inr (.inl ())):=rfl
   refine zbf 5 (by rw[za6];omega) ?_
   simp only[za1,s0]
   cases decide (20<(c.Cals.x0.Closed.length:Int)) with
   |true=>rfl
   |false=>
    simp only[cond_false,za1,s1]
    cases decide (20<(c.Cals.x1.Closed.length:Int)) with
    |true=>rfl
    |false=>
     simp only[cond_false,za1,s2]
     cases decide (20<(c.Cals.x2.Closed.length:Int)) with
     |true=>rfl
     |false=>
      simp only[cond_false,za1,s3]
      cases decide (20<(c.Cals.x3.Closed.length:Int)) with
      |true=>rfl
      |false=>simp only[cond_false,za1,s4];rfl
  simp only[cond_false,Bool.not_false,Bool.true_and]
  rw[show zae z18 (0,c,())=_ from h1,zca]
  cases c.Items.all (fun x=>!(decide (300<(x.Call.length:Int)))) with
  |false=>rfl
  |true=>
   simp only[cond_true,Bool.true_and]
   rw[show zae z19 (0,c,())=_ from h2,zca]
   cases c.Patrons.all (fun x=>!(decide (300<(x.Name.length:Int)))) with
   |false=>rfl
   |true=>
    simp only[cond_true,Bool.true_and,h3]
    cases (!(decide (20<(c.Cals.x0.Closed.length:Int)))&&(!(decide (20<(c.Cals.x1.Closed.length:Int)))&&(!(decide (20<(c.Cals.x2.Closed.length:Int)))&&!(decide (20<(c.Cals.x3.Closed.length:Int))))))<;>rfl
structure SmallP (c:Circ):Prop where
 items:c.Items.length≤10
 patrons:c.Patrons.length≤8
 holds:c.Holds.length≤12
 loans:c.Loans.length≤12
 charges:c.Charges.length≤30
 rules:c.Rules.length≤10
 moves:c.Moves.length≤200
 call:∀x∈c.Items,x.Call.length≤300
 name:∀x∈c.Patrons,x.Name.length≤300
 cal0:c.Cals.x0.Closed.length≤20
 cal1:c.Cals.x1.Closed.length≤20
 cal2:c.Cals.x2.Closed.length≤20
 cal3:c.Cals.x3.Closed.length≤20
theorem zany {c:Circ} (h:zl9 c=true):SmallP c:=by
 unfold zl9 at h
 simp only[Bool.and_eq_true,Bool.not_eq_true',Bool.or_eq_false_iff,decide_eq_false_iff_not,List.all_eq_true]at h
 obtain ⟨⟨⟨⟨⟨⟨⟨h1,h2⟩,h3⟩,h4⟩,h5⟩,h6⟩,h7⟩,h8,h9,h10,h11,h12,h13⟩:=h
 exact ⟨by omega,by omega,by omega,by omega,by omega,by omega,by omega,fun x hx=>by have:=h8 x hx;omega,fun x hx=>by have:=h9 x hx;omega,by omega,by omega,by omega,by omega⟩
theorem SmallP.short {c:Circ} (h:SmallP c):Short c:=by
 obtain ⟨h1,h2,h3,h4,h5,h6,h7,h8,h9,h10,h11,h12,h13⟩:=h
 exact ⟨by omega,by omega,by omega,by omega,by omega,by omega,by omega,fun x hx=>by have:=h8 x hx;omega,fun x hx=>by have:=h9 x hx;omega,by omega,by omega,by omega,by omega⟩
theorem za28 (c:Circ):qes c=some (zl9 c&&zon c):=by
 unfold qes
 rw[za4v]
 cases h:zl9 c with
 |false=>rfl
 |true=>
  simp only[cond_true,za2h (zany h).short]
  try rfl
end Go.Proofs.YtdahfgialanmpaaGreatDoor
namespace Go.Proofs.YtdahfgialanmpaaGreatDoor
open Ev
open Go (IntKind)
theorem zov:qcy=some true:=by kernel_rfl
theorem za40 {γ0:Type} {p:γ0→Patron→Option Bool} {q:Patron→Bool} {s:List Patron} {g:γ0} (hs:s.length<1000000000) (hp:∀x∈s,p g x=some (q x)):qn p s g=some (fIdx q s):=by
 have h:=zba (step:=zvu p) (fun i=>(s,g,(s.length:Int),(i:Int),())) s q (fun i _=>(.inr ((i:Int),()):Unit⊕(Int×Unit))) (.inl ()) hs
  (by simp only[zvu,dge,cond_false])
  (fun i x hx=>by
   have hi:=(List.getElem?_eq_some_iff.1 hx).1
   simp only[zvu,dlt hi,cond_true,zai,hx,hp x (List.mem_of_getElem? hx),zap (show i<9223372036854775807 by omega)])
 unfold qn
 rw[show zae (zvu p) (s,g,(s.length:Int),0,())=_ from h,←zc0]
 have:=zcc (p:=q) (g:=fun i _=>(.inr ((i:Int),()):Unit⊕(Int×Unit))) (d:=.inl ()) (fun z=>match (some z:Option (Unit⊕(Int×Unit))) with|some (.inl _)=>some (-1)|some (.inr (v,_))=>some v|none=>none) (l:=s) (i:=0)
 exact this.trans ((zcc (p:=q) (g:=fun i _=>(i:Int)) (d:=-1) (fun z=>some z) (l:=s) (i:=0)).symm)
theorem za2y {l:List Patron} {id:Int} (hl:l.length<1000000000):qcq l id=some (getP l id):=by
 unfold qcq qb5 getP
 rw[za40 (q:=fun x=>x.ID==id) hl (fun x _=>rfl)]
 rcases zbb (fun x:Patron=>x.ID==id) l with ⟨h1,h2⟩|⟨i,x,h1,h2,h3,h4⟩
 ·simp only[h1,h2,zpn,cond_true]
 ·simp only[h1,h4,ziz,cond_false,zai,h2]
end Go.Proofs.YtdahfgialanmpaaGreatDoor
namespace Go.Proofs.YtdahfgialanmpaaGreatDoor
open Ev
open Go (IntKind)
theorem zlb (lo hi n:Int):(!(rng lo hi n))=(decide (n<lo)||decide (hi<n)):=by
 unfold rng
 by_cases h1:n<lo
 ·have:¬lo≤n:=by omega
  simp[h1,this]
 ·have:lo≤n:=by omega
  by_cases h2:hi<n
  ·have:¬n≤hi:=by omega
   simp[*]
  ·have:n≤hi:=by omega
   simp[*]
theorem zas5 {X:Type} (p:X→Bool) (l:List X):decide (fIdx p l<0)=!(l.any p):=by
 unfold fIdx
 induction l with
 |nil=>rfl
 |cons y l ih=>
  simp only[List.findIdx?_cons,List.any_cons]
  cases hp:p y with
  |true=>rfl
  |false=>
   simp only[Bool.false_eq_true,if_false,Bool.false_or]
   rw[←ih]
   cases l.findIdx? p with
   |none=>rfl
   |some k=>simp only[Option.map_some];rw[decide_eq_decide];omega
theorem z6j {X:Type} (p:X→Bool) (l:List X):decide (0≤fIdx p l)=l.any p:=by
 have h:=zas5 p l
 cases hb:l.any p with
 |true=>rw[hb]at h;simp at h ⊢;omega
 |false=>rw[hb]at h;simp at h ⊢;omega
theorem zau6 {γ:Type} {p:γ→Int→Option Bool} {g:γ} (q:Int→Bool) {l:List Int} (hl:l.length<1000000000) (hp:∀x∈l,p g x=some (q x)):qba p l g=some (fIdx q l):=by
 have h:=zba (step:=zod p) (fun i=>(l,g,(l.length:Int),(i:Int),())) l q (fun i _=>(.inr ((i:Int),()):(Unit)⊕(Int×Unit))) (.inl ()) hl
  (by simp only[zod,dge,cond_false])
  (fun i x hx=>by
   have hi:=(List.getElem?_eq_some_iff.1 hx).1
   simp only[zod,dlt hi,zai,hx,cond_true,hp x (List.mem_of_getElem? hx),zap (show i<9223372036854775807 by omega)])
 unfold qba
 rw[show zae (zod p) (l,g,(l.length:Int),0,())=_ from h]
 have e:=zcc (p:=q) (g:=fun i _=>(.inr ((i:Int),()):(Unit)⊕(Int×Unit))) (d:=.inl ()) (fun r:(Unit)⊕(Int×Unit)=>match r with | .inl (_)=>(-1:Int) | .inr (v,_)=>v) (l:=l) (i:=0)
 dsimp only at e
 rw[←zc0,←e]
 generalize zep q (fun i _=>(.inr ((i:Int),()):(Unit)⊕(Int×Unit))) (.inl ()) 0 l=r
 rcases r with _|⟨v,_⟩<;>rfl
theorem zavd {γ:Type} {p:γ→Int→Option Bool} {g:γ} (q:Int→Bool) {l:List Int} (hl:l.length<1000000000) (hp:∀x∈l,p g x=some (q x)):qfa p l g=some (l.any q):=by
 unfold qfa
 rw[zau6 q hl hp]
 dsimp only
 rw[z6j]
theorem za3j {γ:Type} {p:γ→Loan→Option Bool} {g:γ} (q:Loan→Bool) {l:List Loan} (hl:l.length<1000000000) (hp:∀x∈l,p g x=some (q x)):ql p l g=some (fIdx q l):=by
 have h:=zba (step:=zvs p) (fun i=>(l,g,(l.length:Int),(i:Int),())) l q (fun i _=>(.inr ((i:Int),()):(Unit)⊕(Int×Unit))) (.inl ()) hl
  (by simp only[zvs,dge,cond_false])
  (fun i x hx=>by
   have hi:=(List.getElem?_eq_some_iff.1 hx).1
   simp only[zvs,dlt hi,zai,hx,cond_true,hp x (List.mem_of_getElem? hx),zap (show i<9223372036854775807 by omega)])
 unfold ql
 rw[show zae (zvs p) (l,g,(l.length:Int),0,())=_ from h]
 have e:=zcc (p:=q) (g:=fun i _=>(.inr ((i:Int),()):(Unit)⊕(Int×Unit))) (d:=.inl ()) (fun r:(Unit)⊕(Int×Unit)=>match r with | .inl (_)=>(-1:Int) | .inr (v,_)=>v) (l:=l) (i:=0)
 dsimp only at e
 rw[←zc0,←e]
 generalize zep q (fun i _=>(.inr ((i:Int),()):(Unit)⊕(Int×Unit))) (.inl ()) 0 l=r
 rcases r with _|⟨v,_⟩<;>rfl
theorem za24 {γ:Type} {p:γ→Item→Option Bool} {g:γ} (q:Item→Bool) {l:List Item} (hl:l.length<1000000000) (hp:∀x∈l,p g x=some (q x)):qe p l g=some (fIdx q l):=by
 have h:=zba (step:=zto p) (fun i=>(l,g,(l.length:Int),(i:Int),())) l q (fun i _=>(.inr ((i:Int),()):(Unit)⊕(Int×Unit))) (.inl ()) hl
  (by simp only[zto,dge,cond_false])
  (fun i x hx=>by
   have hi:=(List.getElem?_eq_some_iff.1 hx).1
   simp only[zto,dlt hi,zai,hx,cond_true,hp x (List.mem_of_getElem? hx),zap (show i<9223372036854775807 by omega)])
 unfold qe
 rw[show zae (zto p) (l,g,(l.length:Int),0,())=_ from h]
 have e:=zcc (p:=q) (g:=fun i _=>(.inr ((i:Int),()):(Unit)⊕(Int×Unit))) (d:=.inl ()) (fun r:(Unit)⊕(Int×Unit)=>match r with | .inl (_)=>(-1:Int) | .inr (v,_)=>v) (l:=l) (i:=0)
 dsimp only at e
 rw[←zc0,←e]
 generalize zep q (fun i _=>(.inr ((i:Int),()):(Unit)⊕(Int×Unit))) (.inl ()) 0 l=r
 rcases r with _|⟨v,_⟩<;>rfl
theorem zzo {γ:Type} {p:γ→Hold→Option Bool} {g:γ} (q:Hold→Bool) {l:List Hold} (hl:l.length<1000000000) (hp:∀x∈l,p g x=some (q x)):qb p l g=some (fIdx q l):=by
 have h:=zba (step:=zmz p) (fun i=>(l,g,(l.length:Int),(i:Int),())) l q (fun i _=>(.inr ((i:Int),()):(Unit)⊕(Int×Unit))) (.inl ()) hl
  (by simp only[zmz,dge,cond_false])
  (fun i x hx=>by
   have hi:=(List.getElem?_eq_some_iff.1 hx).1
   simp only[zmz,dlt hi,zai,hx,cond_true,hp x (List.mem_of_getElem? hx),zap (show i<9223372036854775807 by omega)])
 unfold qb
 rw[show zae (zmz p) (l,g,(l.length:Int),0,())=_ from h]
 have e:=zcc (p:=q) (g:=fun i _=>(.inr ((i:Int),()):(Unit)⊕(Int×Unit))) (d:=.inl ()) (fun r:(Unit)⊕(Int×Unit)=>match r with | .inl (_)=>(-1:Int) | .inr (v,_)=>v) (l:=l) (i:=0)
 dsimp only at e
 rw[←zc0,←e]
 generalize zep q (fun i _=>(.inr ((i:Int),()):(Unit)⊕(Int×Unit))) (.inl ()) 0 l=r
 rcases r with _|⟨v,_⟩<;>rfl
theorem zau9 {γ:Type} {p:γ→Hold→Option Bool} {g:γ} (q:Hold→Bool) {l:List Hold} (hl:l.length<1000000000) (hp:∀x∈l,p g x=some (q x)):qc0 p l g=some (l.any q):=by
 unfold qc0
 rw[zzo q hl hp]
 dsimp only
 rw[z6j]
theorem za2x (n lo hi:Int):qcc n lo hi=some (rng lo hi n):=by
 unfold qcc
 simp -zeta only[k_or,za7]
 try rfl
theorem za26 (n:Int):qeq n=some (rng 0 109572 n):=by
 unfold qeq
 simp -zeta only[k_or,za7]
 try rfl
theorem za3b (n:Int):qfe n=some (rng 1 9999 n):=by
 unfold qfe
 simp -zeta only[k_or,za7]
 try rfl
theorem z9d (n:Int):qde n=some (rng 0 109572 n):=by
 unfold qde
 simp -zeta only[k_or,za7]
 try rfl
def zfe (x:Charge):Int:=
 bif decide (x.ID<1)||decide (99999<x.ID)||decide (x.Patron<1)||decide (9999<x.Patron)||decide (x.Item<1)||decide (9999<x.Item)||!(rng 0 109572 x.Day) then 2
 else bif decide (x.Kind<1)||decide (3<x.Kind) then 1
 else bif decide (x.Amount<1)||decide (100000000<x.Amount)||decide (x.Paid<0)||decide (x.Amount≤x.Paid) then 2 else 0
theorem zamq (x:Charge):qcg x=some (zfe x):=by
 unfold qcg zfe
 simp -zeta only[k_or,za7,za26,za3b,zlb 1 9999,Bool.or_assoc]
 dsimp only
 simp only[zc3,Bool.or_assoc]
theorem zrk {α β:Type} (a:α) (g:Int→β) (e:Int):(bif !(e==0) then some (.inr (g e)) else some (.inl a):Option (α⊕β))=zgk a g e:=by
 unfold zgk
 cases e==0<;>rfl
theorem zj2 (l:List Charge) (i:Nat) (x:Charge):zcb l i x=bif zbp l i (fun y=>decide (x.ID≤y.ID)) then 7 else zfe x:=rfl
theorem z2g {l:List Charge} (hl:l.length<1000000000):zae zlo (l,l,(l.length:Int),0,())=some (if zb8 (zcb l) 0 l==0 then .inl () else .inr (zb8 (zcb l) 0 l,())):=by
 have h:=zd4 (step:=zlo) (fun i=>(l,l,(l.length:Int),(i:Int),())) l (zcb l) (.inl ()) (fun e=>.inr (e,())) hl
  (by simp only[zlo,dge,cond_false])
  (fun i x hx=>by
   have hi:=(List.getElem?_eq_some_iff.1 hx).1
   have hxm:=List.mem_of_getElem? hx
   rw[zj2,zdf,←zrk _ _ (zfe x)]
   rcases i with _|j
   ·simp -zeta only[zlo,dlt hi,zai,hx,k_or,za7,zu3,cond_false,cond_true,zbp,zap (show 0<9223372036854775807 by omega),zamq]
    try rfl
   ·have hj:l[j]?=some l[j]:=List.getElem?_eq_getElem (by omega)
    simp -zeta only[zlo,dlt hi,zai,hx,k_or,za7,dpos,zfl (show j<1000000000 by omega),hj,cond_false,cond_true,zbp,zap (show j+1<9223372036854775807 by omega),zamq]
    rfl)
 exact h
theorem za2p {l:List Charge} (hl:l.length<1000000000):qbf l=some (za2 l):=by
 unfold qbf za2
 rw[z2g hl]
 generalize zb8 (zcb l) 0 l=e
 cases decide (128<(l.length:Int)) with
 |true=>rfl
 |false=>
  by_cases h:e=0
  ·subst h;rfl
  ·have h2:(e==0)=false:=by simpa using h
   simp only[h2,Bool.false_eq_true,if_false,cond_false]
theorem zg9 (l:List Hold) (i:Nat) (x:Hold):zdg l i x=bif zbp l i (fun y=>decide (x.ID≤y.ID)) then 7 else zbl x:=by
 unfold zdg
 congr 1
 cases h:zbl x==0 with
 |true=>simp at h;simp[h]
 |false=>simp
def za5f (q:Hold→Hold→Bool) (l:List Hold):Bool:=zc7 (fun i x=>(l.take i).all (fun y=>!(q y x))) 0 l
theorem z3q {X:Type} (q:X→Bool) (l:List X):l.any q=!(l.all (fun y=>!(q y))):=by
 induction l with
 |nil=>rfl
 |cons y l ih=>simp only[List.any_cons,List.all_cons];rw[ih];cases q y<;>rfl
theorem z9n {c:Calendar} (hl:c.Closed.length<1000000000):zae zvw (c.Closed,(c.Closed.length:Int),0,c,())=some (bif incr c.Closed then .inl () else .inr (7,())):=by
 have h:=zbc (step:=zvw) (fun i=>(c.Closed,(c.Closed.length:Int),(i:Int),c,())) c.Closed (fun i x=>!(zbp c.Closed i (fun y=>decide (x≤y)))) (.inr (7,())) (.inl ()) hl
  (by simp only[zvw,dge,cond_false])
  (fun i x hx=>by
   have hi:=(List.getElem?_eq_some_iff.1 hx).1
   rcases i with _|j
   ·simp -zeta only[zvw,dlt hi,zai,hx,za7,zu3,cond_false,cond_true,zbp,zap (show 0<9223372036854775807 by omega)]
    try rfl
   ·have hj:c.Closed[j]?=some c.Closed[j]:=List.getElem?_eq_getElem (by omega)
    simp -zeta only[zvw,dlt hi,zai,hx,dpos,cond_true,zfl (show j<1000000000 by omega),hj,zbp,zap (show j+1<9223372036854775807 by omega)]
    dsimp only
    cases decide (x≤c.Closed[j])<;>rfl)
 exact h
theorem za41 {c:Calendar} (hl:c.Closed.length<1000000000):qw c=some (zci c):=by
 unfold qw zci
 simp -zeta only[k_or]
 dsimp only
 rw[z9n hl,zavd (fun x=>decide (x<0)||decide (109572<x)) hl (fun x _=>by
  unfold qda
  rw[z9d]
  dsimp only
  rw[zlb]),z3q]
 have e:decide (127≤c.Week)=decide (126<c.Week):=by rw[decide_eq_decide];omega
 rw[e]
 cases (decide (c.Week<0)||decide (126<c.Week)) with
 |true=>rfl
 |false=>
  cases decide (64<(c.Closed.length:Int)) with
  |true=>rfl
  |false=>
   cases c.Closed.all (fun x=>!(decide (x<0)||decide (109572<x))) with
   |false=>rfl
   |true=>
    simp only[cond_false,cond_true]
    cases incr c.Closed<;>rfl
end Go.Proofs.YtdahfgialanmpaaGreatDoor
namespace Go.Proofs.YtdahfgialanmpaaGreatDoor
open Ev
open Go (IntKind)
theorem zamf (n lo hi:Int):qbv n lo hi=some (rng lo hi n):=by
 unfold qbv
 simp -zeta only[k_or,za7]
 try rfl
theorem zbw {lo hi n:Int}:rng lo hi n=true↔lo≤n∧n≤hi:=by
 unfold rng
 simp only[Bool.and_eq_true,decide_eq_true_eq]
theorem zki {n:Int} (h:rng 1 12 n=true):n=1∨n=2∨n=3∨n=4∨n=5∨n=6∨n=7∨n=8∨n=9∨n=10∨n=11∨n=12:=by
 have:=zbw.1 h;omega
theorem zea {n:Int} (h:rng 1 15 n=true):n=1∨n=2∨n=3∨n=4∨n=5∨n=6∨n=7∨n=8∨n=9∨n=10∨n=11∨n=12∨n=13∨n=14∨n=15:=by
 have:=zbw.1 h;omega
theorem za3d {s k:Int} (hs:rng 1 12 s=true) (hk:rng 1 15 k=true):qfm s k=some (zif s k):=by
 rcases zki hs with h|h|h|h|h|h|h|h|h|h|h|h<;>subst h<;>
  rcases zea hk with h|h|h|h|h|h|h|h|h|h|h|h|h|h|h<;>subst h<;>rfl
theorem za3e (c:Custody):qfn c=some (zh9 c):=by
 unfold qfn zh9 zave
 simp -zeta only[k_or,za7,zh0,zamf,zlb]
 dsimp only
 cases hb:(decide (c.State<1)||decide (12<c.State)||(decide (c.Branch<1)||decide (4<c.Branch))) with
 |true=>
  have:(decide (c.State<1)||decide (12<c.State)||decide (c.Branch<1)||decide (4<c.Branch))=true:=by rw[←hb,Bool.or_assoc _ _ (decide (4<c.Branch))]
  rw[this];rfl
 |false=>
  have:(decide (c.State<1)||decide (12<c.State)||decide (c.Branch<1)||decide (4<c.Branch))=false:=by rw[←hb,Bool.or_assoc _ _ (decide (4<c.Branch))]
  rw[this]
  have hr:rng 1 12 c.State=true:=by
   simp only[Bool.or_eq_false_iff,decide_eq_false_iff_not]at hb
   rw[zbw];omega
  unfold rng
  simp only[cond_false]
  generalize decide (0≤c.Who)=a1
  generalize decide (c.Who≤9999)=a2
  generalize decide (1≤c.Who)=a3
  generalize decide (1≤c.To)=a4
  generalize decide (c.To≤4)=a5
  generalize (c.To==0)=a6
  generalize (c.To==c.Branch)=a7
  generalize (c.Who==0)=a8
  rcases zki hr with h|h|h|h|h|h|h|h|h|h|h|h<;>rw[h]<;>revert a1 a2 a3 a4 a5 a6 a7 a8<;>decide
theorem zamh (c:Custody) (ok:Bool):qc1 c ok=some (bif ok then (c,0) else (⟨0,0,0,0⟩,1)):=by
 cases ok<;>rfl
theorem za3f (c:Custody) (m:Move):qfq c m=some (bif !(m.Branch==c.Branch) then (⟨6,c.Branch,m.Who,m.Branch⟩,0) else (⟨0,0,0,0⟩,1)):=by
 unfold qfq
 rw[zamh]
theorem za25 (c:Custody) (m:Move):qel c m=some (za8 c m):=by
 unfold qel za8
 simp -zeta only[k_or,za7,zh0,zamf,za3e]
 dsimp only
 have hw:(!(rng 0 109572 m.Day)||!(rng 1 9999 m.Item)||!(rng 1 15 m.Kind)||!(rng 1 4 m.Branch)||!(rng 0 9999 m.Who))=!(zia m):=by
  unfold zia rng
  simp only[Bool.not_and,Bool.or_assoc]
 rw[show (!(zh9 c)||!(rng 0 109572 m.Day)||!(rng 1 9999 m.Item)||!(rng 1 15 m.Kind)||!(rng 1 4 m.Branch)||!(rng 0 9999 m.Who))=(!(zh9 c)||!(zia m)) by rw[←hw];simp only[Bool.or_assoc]]
 cases hb:(!(zh9 c)||!(zia m)) with
 |true=>rfl
 |false=>
  simp only[Bool.or_eq_false_iff,Bool.not_eq_false']at hb
  obtain ⟨h1,h2⟩:=hb
  rw[h2,Bool.not_true]at hw
  simp only[Bool.or_eq_false_iff,Bool.not_eq_false']at hw
  obtain ⟨⟨⟨⟨w1,w2⟩,w3⟩,w4⟩,w5⟩:=hw
  have hs:rng 1 12 c.State=true:=by
   unfold zh9 at h1
   rw[zbw]
   cases hq:(decide (c.State<1)||decide (12<c.State)||decide (c.Branch<1)||decide (4<c.Branch)) with
   |true=>rw[hq]at h1;cases h1
   |false=>simp only[Bool.or_eq_false_iff,decide_eq_false_iff_not]at hq;omega
  rw[za3d hs w3]
  simp only[cond_false]
  cases ha:zif c.State m.Kind with
  |false=>rfl
  |true=>
   simp only[Bool.not_true,cond_false]
   have h0:=(zbw.1 w5).1
   unfold z2h zcy
   simp only[zamh,za3f]
   generalize (c.State==5)=g5
   generalize (m.Who==c.Who)=g7
   generalize (m.Branch==c.To)=g6
   by_cases hw0:m.Who=0
   ·have e2:decide (1≤m.Who)=false:=by rw[decide_eq_false_iff_not];omega
    rw[e2]
    simp only[hw0]
    by_cases hb:m.Branch=c.Branch
    ·simp only[hb,beq_self_eq_true]
     rcases zea w3 with h|h|h|h|h|h|h|h|h|h|h|h|h|h|h<;>
      (simp only[h];cases g5<;>cases g6<;>cases g7<;>rfl)
    ·have e3:(m.Branch==c.Branch)=false:=by simpa using hb
     simp only[e3]
     rcases zea w3 with h|h|h|h|h|h|h|h|h|h|h|h|h|h|h<;>
      (simp only[h];cases g5<;>cases g6<;>cases g7<;>rfl)
   ·have e2:decide (1≤m.Who)=true:=by rw[decide_eq_true_eq];omega
    have e1:(m.Who==0)=false:=by simpa using hw0
    rw[e2]
    simp only[e1]
    by_cases hb:m.Branch=c.Branch
    ·simp only[hb,beq_self_eq_true]
     rcases zea w3 with h|h|h|h|h|h|h|h|h|h|h|h|h|h|h<;>
      (simp only[h];cases g5<;>cases g6<;>cases g7<;>rfl)
    ·have e3:(m.Branch==c.Branch)=false:=by simpa using hb
     simp only[e3]
     rcases zea w3 with h|h|h|h|h|h|h|h|h|h|h|h|h|h|h<;>
      (simp only[h];cases g5<;>cases g6<;>cases g7<;>rfl)
end Go.Proofs.YtdahfgialanmpaaGreatDoor
namespace Go.Proofs.YtdahfgialanmpaaGreatDoor
open Ev
open Go (IntKind)
theorem za2b {c:Circ} {item:Int} (hl:c.Items.length<1000000000):qab c item=some (fIdx (fun x=>x.ID==item) c.Items):=by
 unfold qab
 rw[za24 (fun x=>x.ID==item) hl (fun x _=>rfl)]
theorem zip {c:Circ} {item:Int} (hl:c.Holds.length<1000000000):qbc c item=some (zb1 c item):=by
 unfold qbc zb1
 rw[zzo (p:=fun (g:Unit×Int×Unit) x0=>qc3 x0 g.2.1) (g:=((),(item,()))) (fun x=>x.Got==item) hl (fun x _=>rfl)]
 rcases zbb (fun x:Hold=>x.Got==item) c.Holds with ⟨h1,h2⟩|⟨i,x,h1,h2,h3,h4⟩
 ·simp only[h1,h2,zpn,cond_true]
  try rfl
 ·simp only[h1,h4,ziz,cond_false,zai,h2]
def zc2 (x:Item):Bool:=rng 1 9999 x.ID&&rng 1 9999 x.Record&&rng 1 4 x.Branch&&rng 1 9 x.Kind&&rng 0 100000000 x.Price&&decide ((x.Call.length:Int)≤200)&&vld x.Call
def zc4 (c:Circ) (x:Item):Bool:=!(!((zec x.Branch c.Moves x.ID).2.2==0)||!(zbv (zec x.Branch c.Moves x.ID).1 x.Custody))
def z8x (c:Circ):Bool:=c.Moves.all (fun m=>(c.Items.find? (fun x=>x.ID==m.Item)).isSome)
def zik (c:Circ):Bool:=!(decide (64<(c.Items.length:Int))||decide (2000<(c.Moves.length:Int)))&&(zc7 (fun i x=>!(!(zc2 x)||zbp c.Items i (fun y=>decide (x.ID≤y.ID)))) 0 c.Items&&(z8x c&&c.Items.all (zc4 c)))
end Go.Proofs.YtdahfgialanmpaaGreatDoor
namespace Go.Proofs.YtdahfgialanmpaaGreatDoor
open Ev
open Go (IntKind)
theorem zed {X:Type} {key:X→Int} {l:List X} (h:∀i x,l[i]?=some x→zbp l i (fun y=>decide (key x≤key y))=false):∀(j i:Nat) (x y:X),i<j→l[i]?=some x→l[j]?=some y→key x<key y:=by
 intro j
 induction j with
 |zero=>intro i x y hi;omega
 |succ j ih=>
  intro i x y hi hx hy
  have hj:=(List.getElem?_eq_some_iff.1 hy).1
  have hz:l[j]?=some l[j]:=List.getElem?_eq_getElem (by omega)
  have:=h _ _ hy
  simp only[zbp,hz,decide_eq_false_iff_not]at this
  by_cases e:i=j
  ·subst e
   rw[hz]at hx;cases hx;omega
  ·have:=ih i x l[j] (by omega) hx hz
   omega
theorem zma {X:Type} {key:X→Int} {l:List X} (h:∀i x,l[i]?=some x→zbp l i (fun y=>decide (key x≤key y))=false) {x:X} (hx:x∈l):l.find? (fun y=>key y==key x)=some x:=by
 rcases zbb (fun y=>key y==key x) l with ⟨h1,h2⟩|⟨i,y,h1,h2,h3,h4⟩
 ·rw[List.find?_eq_none]at h2
  exact absurd (beq_self_eq_true _) (h2 x hx)
 ·rw[h4]
  obtain ⟨j,hj⟩:=List.getElem?_of_mem hx
  have e:key y=key x:=by simpa using h3
  by_cases hij:i=j
  ·subst hij;rw[h2]at hj;exact hj
  ·rcases Nat.lt_or_gt_of_ne hij with hlt|hlt
   ·have:=zed h _ _ _ _ hlt h2 hj;omega
   ·have:=zed h _ _ _ _ hlt hj h2;omega
theorem zkh {X:Type} {f:Nat→X→Int}:∀{l:List X} {k:Nat},zb8 f k l=0→∀i x,l[i]?=some x→f (k+i) x=0:=by
 intro l
 induction l with
 |nil=>intro k _ i x hx;simp at hx
 |cons y l ih=>
  intro k h i x hx
  unfold zb8 at h
  by_cases e:f k y=0
  ·rw[e]at h
   simp only[beq_self_eq_true,if_true]at h
   cases i with
   |zero=>simp at hx;subst hx;exact e
   |succ i=>have:=ih h i x (by simpa using hx);rwa [show k+(i+1)=k+1+i by omega]
  ·have:(f k y==0)=false:=by simpa using e
   rw[this]at h
   exact absurd h e
theorem zb4 {b:Bool} {n m:Int} (h:(bif b then n else m)=0) (hn:n≠0):b=false:=by
 cases b with
 |false=>rfl
 |true=>exact absurd h hn
theorem zha {l:List Hold} (h:zd0 l=0):zb8 (zdg l) 0 l=0:=by
 unfold zd0 at h
 rw[zb4 h (by decide)]at h
 simp only[cond_false]at h
 by_cases e:zb8 (zdg l) 0 l=0
 ·exact e
 ·have h2:(zb8 (zdg l) 0 l==0)=false:=by simpa using e
  rw[h2]at h
  exact h
theorem zrp {l:List Hold} (h:zd0 l=0):∀i x,l[i]?=some x→zbp l i (fun y=>decide (x.ID≤y.ID))=false:=by
 intro i x hx
 have:=zkh (k:=0) (zha h) i x hx
 rw[Nat.zero_add,zg9]at this
 exact zb4 this (by decide)
theorem zni {l:List Hold} (h:zd0 l=0) {x:Hold} (hx:x∈l):zbl x=0:=by
 obtain ⟨i,hi⟩:=List.getElem?_of_mem hx
 have:=zkh (k:=0) (zha h) i x hi
 rw[Nat.zero_add,zg9]at this
 rw[zb4 this (by decide)]at this
 exact this
theorem z1a {x:Hold} (h:zbl x=0):x.State=1∨x.State=2∨x.State=3:=by
 unfold zbl at h
 rw[zb4 h (by decide)]at h
 simp only[cond_false]at h
 have:=zb4 h (by decide)
 simp only[Bool.or_eq_false_iff,decide_eq_false_iff_not]at this
 omega
theorem zkg {a b:Custody}:zbv a b=true↔a=b:=by
 obtain ⟨a1,a2,a3,a4⟩:=a
 obtain ⟨b1,b2,b3,b4⟩:=b
 unfold zbv
 simp[Bool.and_eq_true]
 try (constructor<;>(intro h;simp_all))
end Go.Proofs.YtdahfgialanmpaaGreatDoor
namespace Go.Proofs.YtdahfgialanmpaaGreatDoor
open Ev
open Go (IntKind)
theorem zvd (c:Circ) (i:Nat) (x:Item):zd1 c i x=(!(!(zc2 x)||zbp c.Items i (fun y=>decide (x.ID≤y.ID)))&&zc4 c x):=by
 unfold zd1 zc4 zc2
 rw[Bool.eq_iff_iff]
 simp only[Bool.and_eq_true,Bool.not_eq_true',Bool.or_eq_false_iff,decide_eq_false_iff_not,Bool.not_eq_false',zbw,decide_eq_true_eq]
 constructor
 ·rintro ⟨⟨h1,h2⟩,h3⟩
  obtain ⟨⟨⟨⟨⟨⟨a1,a2⟩,a3⟩,a4⟩,a5⟩,a6⟩,a7⟩:=h1
  obtain ⟨⟨⟨⟨⟨b1,b2⟩,b3⟩,b4⟩,b5⟩,b6⟩:=h2
  refine ⟨⟨⟨⟨⟨⟨⟨⟨⟨?_,?_⟩,⟨?_,?_⟩⟩,⟨?_,?_⟩⟩,⟨?_,?_⟩⟩,⟨?_,?_⟩⟩,?_⟩,b6⟩,a3⟩,h3⟩<;>omega
 ·rintro ⟨⟨h1,a3⟩,h3⟩
  obtain ⟨⟨⟨⟨⟨⟨⟨a1,a2⟩,⟨a4,a5⟩⟩,⟨a6,a7⟩⟩,⟨a8,a9⟩⟩,⟨b1,b2⟩⟩,b3⟩,b4⟩:=h1
  refine ⟨⟨⟨⟨⟨⟨⟨⟨?_,?_⟩,a3⟩,?_⟩,?_⟩,?_⟩,?_⟩,⟨⟨⟨⟨⟨?_,?_⟩,?_⟩,?_⟩,?_⟩,b4⟩⟩,h3⟩<;>omega
theorem zrw (c:Circ):ze5 c=zik c:=by
 have key:zc7 (zd1 c) 0 c.Items=(zc7 (fun i x=>!(!(zc2 x)||zbp c.Items i (fun y=>decide (x.ID≤y.ID)))) 0 c.Items&&c.Items.all (zc4 c)):=by
  have gen:∀(l:List Item) (k:Nat),zc7 (zd1 c) k l=(zc7 (fun i x=>!(!(zc2 x)||zbp c.Items i (fun y=>decide (x.ID≤y.ID)))) k l&&l.all (zc4 c)):=by
   intro l
   induction l with
   |nil=>intro k;rfl
   |cons x l ih=>
    intro k
    simp only[zc7,List.all_cons]
    rw[ih,zvd]
    generalize (!(!(zc2 x)||zbp c.Items k (fun y=>decide (x.ID≤y.ID))))=b1
    generalize zc7 (fun i x=>!(!(zc2 x)||zbp c.Items i (fun y=>decide (x.ID≤y.ID)))) (k+1) l=b2
    cases b1<;>cases b2<;>cases zc4 c x<;>cases l.all (zc4 c)<;>rfl
  exact gen _ _
 unfold ze5 zik z8x
 rw[key]
 generalize (!(decide (64<(c.Items.length:Int))||decide (2000<(c.Moves.length:Int))))=b1
 generalize zc7 (fun i x=>!(!(zc2 x)||zbp c.Items i (fun y=>decide (x.ID≤y.ID)))) 0 c.Items=b2
 generalize c.Moves.all (fun m=>(c.Items.find? (fun x=>x.ID==m.Item)).isSome)=b3
 cases b1<;>cases b2<;>cases b3<;>cases c.Items.all (zc4 c)<;>rfl
theorem zil {c:Circ} (h:zik c=true):∀i x,c.Items[i]?=some x→zbp c.Items i (fun y=>decide (x.ID≤y.ID))=false:=by
 intro i x hx
 unfold zik at h
 simp only[Bool.and_eq_true]at h
 have:=(zjn.1 h.2.1) i x hx
 rw[Nat.zero_add]at this
 simp only[Bool.not_eq_true',Bool.or_eq_false_iff]at this
 exact this.2
theorem zrx {c:Circ} (h:zik c=true) {x:Item} (hx:x∈c.Items):zc4 c x=true:=by
 unfold zik at h
 simp only[Bool.and_eq_true,List.all_eq_true]at h
 exact h.2.2.2 x hx
end Go.Proofs.YtdahfgialanmpaaGreatDoor
namespace Go.Proofs.YtdahfgialanmpaaGreatDoor
open Ev
open Go (IntKind)
end Go.Proofs.YtdahfgialanmpaaGreatDoor
namespace Go.Proofs.YtdahfgialanmpaaGreatDoor
open Ev
open Go (IntKind)
theorem zeb {n m:Nat} (h:n+m≤1000000100):decide (n+m≤LIM)=true:=by rw[decide_eq_true_eq];unfold LIM;omega
theorem zi5 {X:Type} {s:List X} (h:s.length<1000000000):decide (([]:List X).length+s.length≤LIM)=true:=zeb (by simp;omega)
def zhg:Circ:=⟨0,[],[],[],[],[],[],⟨⟨0,[]⟩,⟨0,[]⟩,⟨0,[]⟩,⟨0,[]⟩⟩,[],0,0,false⟩
end Go.Proofs.YtdahfgialanmpaaGreatDoor
namespace Go.Proofs.YtdahfgialanmpaaGreatDoor
open Ev
open Go (IntKind)
def ChOk (x:Charge):Prop:=0≤x.Paid∧x.Paid<x.Amount∧x.Amount≤100000000
theorem z0n {l:List Charge} (h:za2 l=0):l.length≤128∧∀x∈l,ChOk x:=by
 unfold za2 at h
 rw[Bool.cond_eq_ite]at h
 split at h
 ·omega
 ·rename_i hlen
  simp only[decide_eq_true_eq]at hlen
  refine ⟨by omega,fun x hx=>?_⟩
  obtain ⟨i,hi⟩:=List.getElem?_of_mem hx
  have:=z03.1 h i x hi
  unfold zcb at this
  simp only[Bool.cond_eq_ite]at this
  split at this
  ·omega
  ·split at this
   ·omega
   ·split at this
    ·omega
    ·split at this
     ·omega
     ·rename_i h4
      simp only[Bool.or_eq_true,decide_eq_true_eq,not_or]at h4
      unfold ChOk
      omega
def owed (p:Int):List Charge→Int
 | []=>0
 |x::l=>(bif x.Patron==p then x.Amount-x.Paid else 0)+owed p l
end Go.Proofs.YtdahfgialanmpaaGreatDoor
namespace Go.Proofs.YtdahfgialanmpaaGreatDoor
open Ev
open Go (IntKind)
end Go.Proofs.YtdahfgialanmpaaGreatDoor
namespace Go.Proofs.YtdahfgialanmpaaGreatDoor
open Ev
open Go (IntKind)
def zdm (r:Rule):Int:=(bif !(r.Patron==0) then 4 else 0)+((bif !(r.Item==0) then 2 else 0)+(bif !(r.Branch==0) then 1 else 0))
theorem za22 (r:Rule):qe3 r=some (zdm r):=by
 unfold qe3 zdm
 cases r.Patron==0<;>cases r.Item==0<;>cases r.Branch==0<;>rfl
theorem za2q (r:Rule):qbk r=some (zdm r):=by
 unfold qbk
 have st:∀(a b c n:Int),(∀(m:Int),ziq (m,3,0,[a,b,c],())=some (.inl (bif !(a==0) then wr .i64 ((wr .i64 (m*2))+1) else wr .i64 (m*2),3,1,[a,b,c],())))∧
  (∀(m:Int),ziq (m,3,1,[a,b,c],())=some (.inl (bif !(b==0) then wr .i64 ((wr .i64 (m*2))+1) else wr .i64 (m*2),3,2,[a,b,c],())))∧
  (∀(m:Int),ziq (m,3,2,[a,b,c],())=some (.inl (bif !(c==0) then wr .i64 ((wr .i64 (m*2))+1) else wr .i64 (m*2),3,3,[a,b,c],()))):=fun a b c n=>
  ⟨fun m=>by show (bif !(a==0) then _ else _)=_;cases a==0<;>rfl,fun m=>by show (bif !(b==0) then _ else _)=_;cases b==0<;>rfl,fun m=>by show (bif !(c==0) then _ else _)=_;cases c==0<;>rfl⟩
 obtain ⟨s0,s1,s2⟩:=st r.Patron r.Item r.Branch 0
 have s3:∀m:Int,ziq (m,3,3,[r.Patron,r.Item,r.Branch],())=some (.inr (m,())):=fun m=>rfl
 have h:zae ziq (0,(([r.Patron,r.Item,r.Branch]).length:Int),0,[r.Patron,r.Item,r.Branch],())=some (zdm r,()):=by
  refine zbf 4 (by rw[za6];omega) ?_
  show za1 ziq 4 (0,3,0,[r.Patron,r.Item,r.Branch],())=_
  simp only[za1,s0,s1,s2,s3]
  unfold zdm
  cases r.Patron==0<;>cases r.Item==0<;>cases r.Branch==0<;>rfl
 rw[h]
def zmr (r:Rule) (p i b:Int):Bool:=(r.Patron==0||r.Patron==p)&&(r.Item==0||r.Item==i)&&(r.Branch==0||r.Branch==b)
theorem zamx (r:Rule) (p i b:Int):qfi r p i b=some (zmr r p i b):=by
 unfold qfi zmr
 simp -zeta only[k_or,za7]
 try rfl
theorem za29 (a b:Int):qew a b=some (a==0||a==b):=by
 unfold qew
 cases a==0<;>rfl
theorem zamp (r:Rule) (p i b:Int):qca r p i b=some (zmr r p i b):=by
 unfold qca zmr
 simp -zeta only[za29,k_or,za7]
 try dsimp only
def wB (l:List Rule) (b:Int):Int:=match getI l b with|some y=>zdm y|none=>0
def zqv (l:List Rule) (p it br:Int) (i:Nat) (x:Rule) (b:Int):Int:=bif zmr x p it br&&(decide (b<0)||decide (wB l b<zdm x)) then (i:Int) else b
def zac7 (l:List Rule) (p it br:Int):Int:=zc5 (fun i x b=>.inl (zqv l p it br i x b)) (fun b=>b) 0 l (-1)
def zfq (l:List Rule) (b:Int):Prop:=b<0∨∃k:Nat,b=(k:Int)∧k<l.length
theorem zqw {l:List Rule} {b:Int} (h:zfq l b) (hb:decide (b<0)=false):∃y,getI l b=some y∧wB l b=zdm y:=by
 rcases h with h|⟨k,rfl,hk⟩
 ·rw[decide_eq_false_iff_not]at hb;omega
 ·have:getI l (k:Int)=some l[k]:=by rw[zai,List.getElem?_eq_getElem hk]
  exact ⟨_,this,by unfold wB;rw[this]⟩
theorem zjt {l:List Rule} {p it br:Int} {i:Nat} {x:Rule} {b:Int} (h:zfq l b) (hi:i<l.length):zfq l (zqv l p it br i x b):=by
 unfold zqv
 cases zmr x p it br&&(decide (b<0)||decide (wB l b<zdm x)) with
 |true=>exact .inr ⟨i,rfl,hi⟩
 |false=>exact h
theorem ztt {X σ β γ:Type} {f:Nat→X→σ→σ} {g:σ→β} (k:β→γ):∀{l:List X} {i:Nat} {s:σ},k (zc5 (fun i x s=>.inl (f i x s)) g i l s)=zc5 (fun i x s=>.inl (f i x s)) (fun s=>k (g s)) i l s:=by
 intro l
 induction l with
 |nil=>intros;rfl
 |cons x l ih=>intro i s;simp only[zc5];exact ih
theorem za17 {l:List Rule} {p it br:Int} (hl:l.length<1000000000):qa0 l p it br=some (zac7 l p it br):=by
 have h:=zbg (step:=zlf) (fun (i:Nat) (b:Int)=>zfq l b) (fun i b=>(l,p,it,br,b,l,(l.length:Int),(i:Int),())) l
  (fun i x b=>.inl (zqv l p it br i x b)) (fun b=>(b,())) (by rw[za6];omega)
  (fun b _=>by simp only[zlf,dge,cond_false])
  (fun i x b hx hi=>by
   have hlt:=(List.getElem?_eq_some_iff.1 hx).1
   refine ⟨?_,fun s' hs'=>by cases hs';exact zjt hi hlt⟩
   unfold zqv
   cases hb:decide (b<0) with
   |true=>
    simp only[zlf,dlt hlt,zai,hx,cond_true,zamp,hb,zap (show i<9223372036854775807 by omega)]
    cases zmr x p it br<;>rfl
   |false=>
    obtain ⟨y,h1,h2⟩:=zqw hi hb
    simp only[zlf,dlt hlt,zai,hx,cond_true,cond_false,zamp,za2q,h1,h2,hb,zap (show i<9223372036854775807 by omega)]
    cases zmr x p it br<;>cases decide (zdm y<zdm x)<;>rfl) (-1) (.inl (by omega))
 unfold qa0
 rw[show zae zlf (l,p,it,br,(-1),l,(l.length:Int),0,())=_ from h,←ztt (g:=fun b=>b) (fun b:Int=>(b,()))]
 try rfl
theorem zamg {l:List Rule} {p it br:Int} (hl:l.length<1000000000):qbx l p it br=some (zac7 l p it br):=by
 have h:=zbg (step:=zlp) (fun (i:Nat) (b:Int)=>zfq l b) (fun i b=>(l,p,it,br,b,(i:Int),())) l
  (fun i x b=>.inl (zqv l p it br i x b)) (fun b=>(b,())) (by rw[za6];omega)
  (fun b _=>by simp only[zlp,dge,cond_false])
  (fun i x b hx hi=>by
   have hlt:=(List.getElem?_eq_some_iff.1 hx).1
   refine ⟨?_,fun s' hs'=>by cases hs';exact zjt hi hlt⟩
   unfold zqv
   cases hb:decide (b<0) with
   |true=>
    simp only[zlp,dlt hlt,zai,hx,cond_true,zamx,hb,zap (show i<9223372036854775807 by omega)]
    cases zmr x p it br<;>rfl
   |false=>
    obtain ⟨y,h1,h2⟩:=zqw hi hb
    simp only[zlp,dlt hlt,zai,hx,cond_true,cond_false,zamx,za22,h1,h2,hb,zap (show i<9223372036854775807 by omega)]
    cases zmr x p it br<;>cases decide (zdm y<zdm x)<;>rfl) (-1) (.inl (by omega))
 unfold qbx
 rw[show zae zlp (l,p,it,br,(-1),0,())=_ from h,←ztt (g:=fun b=>b) (fun b:Int=>(b,()))]
 try rfl
theorem zavc {l:List Rule} {p it br:Int} (hl:l.length<1000000000):qdj l p it br=qf3 l p it br:=by
 unfold qdj qf3
 rw[za17 hl,zamg hl]
 try rfl
theorem z9b {c:Circ} {p:Int} {x:Item} (hs:Short c):qcb c p x=qe6 c p x:=by
 unfold qcb qe6
 rw[za2y hs.patrons,zls hs.patrons]
 dsimp only
 rw[zavc hs.rules]
 try rfl
def calS (c:Circ) (b:Int):Calendar:=bif b==1 then c.Cals.x0 else bif b==2 then c.Cals.x1 else bif b==3 then c.Cals.x2 else c.Cals.x3
theorem znf {n:Int} (h:rng 1 4 n=true):n=1∨n=2∨n=3∨n=4:=by
 have:=zbw.1 h;omega
theorem za3k {c:Circ} {b:Int} (h:rng 1 4 b=true):qo c b=some (calS c b):=by
 rcases znf h with h|h|h|h<;>subst h<;>rfl
theorem z9c {c:Circ} {b:Int} (h:rng 1 4 b=true):qcm c b=some (calS c b):=by
 rcases znf h with h|h|h|h<;>subst h<;>rfl
end Go.Proofs.YtdahfgialanmpaaGreatDoor
namespace Go.Proofs.YtdahfgialanmpaaGreatDoor
open Ev
open Go (IntKind)
def zbm (week:Int) (i:Nat):Bool:=(wr .i64 (BitVec.ofInt 64 (week.fdiv (2 ^ (min i 64))) &&& BitVec.ofInt 64 1).toNat)==0
theorem zal5 (c:Calendar):qaz c=some ⟨zbm c.Week 0,zbm c.Week 1,zbm c.Week 2,zbm c.Week 3,zbm c.Week 4,zbm c.Week 5,zbm c.Week 6⟩:=by
 have h:zae z89 (0,c,(⟨false,false,false,false,false,false,false⟩:V7 Bool),(⟨false,false,false,false,false,false,false⟩:V7 Bool),())=some ((⟨false,false,false,false,false,false,false⟩:V7 Bool),(⟨zbm c.Week 0,zbm c.Week 1,zbm c.Week 2,zbm c.Week 3,zbm c.Week 4,zbm c.Week 5,zbm c.Week 6⟩:V7 Bool),()):=by
  refine zbf 8 (by rw[za6];omega) ?_
  try rfl
 unfold qaz
 rw[h]
def bitW:Int→Nat→Int
 |n,0=>n
 |n,k+1=>bitW (wr .i64 (n.tdiv 2)) k
theorem z84 {day n:Int} {c:Calendar}:∀(k:Nat) (i:Nat) (n:Int),i+k<100→za1 z17 (k+1) (day,n,((i+k:Nat):Int),(i:Int),c,())=some (day,bitW n k,c,()):=by
 intro k
 induction k with
 |zero=>
  intro i n hi
  have:decide ((i:Int)<((i+0:Nat):Int))=false:=by rw[decide_eq_false_iff_not];omega
  simp only[za1,z17,this,cond_false,bitW]
 |succ k ih=>
  intro i n hi
  have:decide ((i:Int)<((i+(k+1):Nat):Int))=true:=by rw[decide_eq_true_eq];omega
  rw[za1]
  simp only[z17,this,cond_true,zap (show i<9223372036854775807 by omega),bitW]
  have:=ih (i+1) (wr .i64 (n.tdiv 2)) (by omega)
  rw[show i+1+k=i+(k+1) by omega]at this
  exact this
theorem z29:((List.range 127).all fun n=>(List.range 7).all fun w=>zbm (n:Int) w==!((bitW (n:Int) w).tmod 2==1))=true:=by kernel_rfl
theorem zacq {week:Int} {w:Nat} (h1:0≤week) (h2:week≤126) (hw:w<7):zbm week w=!((bitW week w).tmod 2==1):=by
 obtain ⟨n,rfl⟩:∃n:Nat,week=(n:Int):=⟨week.toNat,by omega⟩
 have h:=z29
 rw[List.all_eq_true]at h
 have h3:=h n (List.mem_range.2 (by omega))
 rw[List.all_eq_true]at h3
 have h4:=h3 w (List.mem_range.2 hw)
 simpa using h4
def lbS (t:Int) (l:List Int):Nat:=(l.takeWhile (fun x=>decide (x<t))).length
theorem za4u {t:Int} {l:List Int}:lbS t l≤l.length:=by
 unfold lbS
 have:=(List.takeWhile_prefix (fun x=>decide (x<t)) (l:=l)).length_le
 exact this
theorem zry {t:Int}:∀{l:List Int} {k:Nat} {x:Int},k<lbS t l→l[k]?=some x→x<t:=by
 intro l
 induction l with
 |nil=>intro k x h;simp[lbS]at h
 |cons y l ih=>
  intro k x h hx
  unfold lbS at h ih
  rw[List.takeWhile_cons]at h
  by_cases hy:y<t
  ·simp only[hy,decide_true,if_true,List.length_cons]at h
   cases k with
   |zero=>simp at hx;omega
   |succ k=>exact ih (k:=k) (by omega) (by simpa using hx)
  ·simp[hy]at h
theorem za11 {t:Int}:∀{l:List Int} {x:Int},l[lbS t l]?=some x→¬x<t:=by
 intro l
 induction l with
 |nil=>intro x h;simp[lbS]at h
 |cons y l ih=>
  intro x hx
  unfold lbS at hx ih
  rw[List.takeWhile_cons]at hx
  by_cases hy:y<t
  ·simp only[hy,decide_true,if_true,List.length_cons,List.getElem?_cons_succ]at hx
   exact ih hx
  ·simp[hy]at hx;omega
theorem zalt {t:Int} {l:List Int} (hsort:∀(j i:Nat) (x y:Int),i<j→l[i]?=some x→l[j]?=some y→x<y) {k:Nat} {x:Int} (hx:l[k]?=some x):decide (x<t)=decide (k<lbS t l):=by
 rw[decide_eq_decide]
 constructor
 ·intro h
  by_cases hk:k<lbS t l
  ·exact hk
  ·exfalso
   have hlt:lbS t l<l.length:=by have:=(List.getElem?_eq_some_iff.1 hx).1;omega
   have hz:l[lbS t l]?=some l[lbS t l]:=List.getElem?_eq_getElem hlt
   have:=za11 hz
   by_cases e:lbS t l=k
   ·subst e
    rw[hz]at hx;cases hx;exact this h
   ·have:=hsort k (lbS t l) _ _ (by omega) hz hx;omega
 ·intro h;exact zry h hx
theorem za13 {i j:Nat} (h:i+j<2000000000):wr .i64 ((wr .u64 (wr .i64 ((i:Int)+(j:Int)))).fdiv (2 ^ 1))=(((i+j) / 2:Nat):Int):=by
 rw[zcn (n:=(i:Int)+(j:Int)) (by omega) (by omega)]
 have:wr .u64 ((i:Int)+(j:Int))=(i:Int)+(j:Int):=by
  unfold wr;simp[IntKind.wrap,IntKind.bits,IntKind.signed];omega
 rw[this,Int.fdiv_eq_ediv_of_nonneg _ (by omega)]
 have e:((i:Int)+(j:Int)) / 2 ^ 1=(((i+j) / 2:Nat):Int):=by omega
 rw[e,zcn (by omega) (by omega)]
theorem za3c (x y:Int):qff x y=some (decide (x<y)):=by
 have e:∀z:Int,qfd z=some false:=fun z=>by unfold qfd;simp
 unfold qff
 rw[e]
 try rfl
theorem z2y {l:List Int} {t:Int} (hl:l.length<1000000000) (hsort:∀(j i:Nat) (x y:Int),i<j→l[i]?=some x→l[j]?=some y→x<y) :
 zae zn0 (l,t,(l.length:Int),0,(l.length:Int),())=some (l,t,(l.length:Int),(lbS t l:Int),()):=by
 refine zacr (step:=zn0) (fun a=>∃i j:Nat,a=(l,t,(l.length:Int),(i:Int),(j:Int),())∧i≤lbS t l∧lbS t l≤j∧j≤l.length) (fun a=>(a.2.2.2.2.1-a.2.2.2.1).toNat) (fun _=>(l,t,(l.length:Int),(lbS t l:Int),())) ?_ ⟨0,l.length,rfl,by omega,za4u,by omega⟩ (by rw[za6];show ((l.length:Int)-0).toNat<_;omega)
 rintro a ⟨i,j,rfl,h1,h2,h3⟩
 by_cases hij:i<j
 ·left
  have d:decide ((i:Int)<(j:Int))=true:=by rw[decide_eq_true_eq];omega
  have hm:(i+j) / 2<l.length:=by omega
  have hx:l[(i+j) / 2]?=some l[(i+j) / 2]:=List.getElem?_eq_getElem hm
  have hlb:=zalt (t:=t) hsort hx
  simp only[zn0,d,cond_true,za13 (show i+j<2000000000 by omega),zai,hx,za3c,hlb]
  by_cases hk:(i+j) / 2<lbS t l
  ·rw[show decide ((i+j) / 2<lbS t l)=true by rw[decide_eq_true_eq];exact hk]
   simp only[cond_true,zap (show (i+j) / 2<9223372036854775807 by omega)]
   exact ⟨_,rfl,⟨(i+j) / 2+1,j,rfl,by omega,h2,h3⟩,by simp only;omega,trivial⟩
  ·rw[show decide ((i+j) / 2<lbS t l)=false by rw[decide_eq_false_iff_not];exact hk]
   simp only[cond_false]
   exact ⟨_,rfl,⟨i,(i+j) / 2,rfl,h1,by omega,by omega⟩,by simp only;omega,trivial⟩
 ·right
  have d:decide ((i:Int)<(j:Int))=false:=by rw[decide_eq_false_iff_not];omega
  have hi:i=lbS t l:=by omega
  subst hi
  simp only[zn0,d,cond_false]
theorem z9z {l:List Int} {t:Int} (hl:l.length<1000000000) (hsort:∀(j i:Nat) (x y:Int),i<j→l[i]?=some x→l[j]?=some y→x<y) :
 qa3 l t=some ((lbS t l:Int),l.any (fun x=>x==t)):=by
 unfold qa3
 rw[z2y hl hsort]
 by_cases hk:lbS t l<l.length
 ·have d:decide ((lbS t l:Int)<(l.length:Int))=true:=by rw[decide_eq_true_eq];omega
  have hx:l[lbS t l]?=some l[lbS t l]:=List.getElem?_eq_getElem hk
  have hn:qeu l[lbS t l]=some false:=by unfold qeu;simp
  simp only[d,cond_true,zai,hx,hn,cond_false]
  have e:(l[lbS t l]==t)=l.any (fun x=>x==t):=by
   rw[Bool.eq_iff_iff,List.any_eq_true]
   constructor
   ·intro h;exact ⟨_,List.getElem_mem hk,h⟩
   ·rintro ⟨x,hm,he⟩
    have he':x=t:=by simpa using he
    obtain ⟨i,hi⟩:=List.getElem?_of_mem hm
    have h1:=zalt (t:=t) hsort hi
    have h2:=za11 hx
    rw[decide_eq_decide]at h1
    by_cases e:i=lbS t l
    ·rw[e,hx]at hi;cases hi;exact he
    ·have:lbS t l<i:=by omega
     have:=hsort _ _ _ _ this hx hi
     omega
  rw[←e]
  cases l[lbS t l]==t<;>rfl
 ·have d:decide ((lbS t l:Int)<(l.length:Int))=false:=by rw[decide_eq_false_iff_not];omega
  have e:l.any (fun x=>x==t)=false:=by
   rw[List.any_eq_false]
   intro x hm he
   have he':x=t:=by simpa using he
   obtain ⟨i,hi⟩:=List.getElem?_of_mem hm
   have:=(List.getElem?_eq_some_iff.1 hi).1
   have:=zry (t:=t) (show i<lbS t l by omega) hi
   omega
  simp only[d,cond_false,e]
end Go.Proofs.YtdahfgialanmpaaGreatDoor
namespace Go.Proofs.YtdahfgialanmpaaGreatDoor
open Ev
open Go (IntKind)
theorem zkm {l:List Int} (h:incr l=true):∀(j i:Nat) (x y:Int),i<j→l[i]?=some x→l[j]?=some y→x<y:=by
 have h2:∀i x,l[i]?=some x→zbp l i (fun y=>decide (x≤y))=false:=by
  intro i x hx
  have:=(zjn.1 h) i x hx
  rw[Nat.zero_add]at this
  simpa using this
 exact zed (key:=fun x:Int=>x) h2
structure CalOk (c:Calendar):Prop where
 w1:0≤c.Week
 w2:c.Week≤126
 len:c.Closed.length<1000000000
 inc:incr c.Closed=true
theorem zada {c:Calendar} (h:(zci c==0)=true):CalOk c:=by
 have h:zci c=0:=by simpa using h
 unfold zci at h
 have h1:=zb4 h (by decide)
 rw[h1]at h
 simp only[cond_false]at h
 have h2:=zb4 h (by decide)
 rw[h2]at h
 simp only[cond_false]at h
 simp only[Bool.or_eq_false_iff,decide_eq_false_iff_not]at h1 h2
 cases h3:c.Closed.all (fun x=>!(decide (x<0)||decide (109572<x))) with
 |false=>rw[h3]at h;cases h
 |true=>
  rw[h3]at h
  cases h4:incr c.Closed with
  |false=>rw[h4]at h;cases h
  |true=>exact ⟨by omega,by omega,by omega,h4⟩
def zhi (c:Calendar) (d:Int):Bool:=rng 0 109572 d&&(!(c.Closed.any (fun x=>x==d))&&zbm c.Week (d.tmod 7).toNat)
theorem zayx {d:Int} (h:0≤d):0≤d.tmod 7∧d.tmod 7<7:=by
 rw[Int.tmod_eq_emod_of_nonneg h];omega
theorem zamr {c:Calendar} (hc:CalOk c) (d:Int):qci c d=some (zhi c d):=by
 unfold qci zhi
 rw[z9d]
 dsimp only
 cases hr:rng 0 109572 d with
 |false=>rfl
 |true=>
  simp -zeta only[Bool.not_true,cond_false,Bool.true_and]
  rw[z9z hc.len (zkm hc.inc)]
  dsimp only
  cases c.Closed.any (fun x=>x==d) with
  |true=>rfl
  |false=>
   have hk:qdh d=some (d.tmod 7):=by
    have e:qfv d=some (rng 0 109572 d):=by
     unfold qfv
     simp -zeta only[za7]
     try rfl
    unfold qdh
    rw[e,hr]
    try rfl
   simp only[Bool.not_false,cond_true,zal5,hk,Bool.true_and]
   obtain ⟨h1,h2⟩:=zayx (zbw.1 hr).1
   generalize d.tmod 7=w at h1 h2
   have:w=0∨w=1∨w=2∨w=3∨w=4∨w=5∨w=6:=by omega
   rcases this with h|h|h|h|h|h|h<;>subst h<;>rfl
theorem z16 {c:Calendar} {d:Int} (hl:c.Closed.length<1000000000):zae zle (d,0,c,())=some (bif c.Closed.all (fun x=>!(x==d)) then .inl () else .inr (false,())):=by
 have h:=zbc (step:=zle) (fun i=>(d,(i:Int),c,())) c.Closed (fun _ x=>!(x==d)) (.inr (false,())) (.inl ()) hl
  (by simp only[zle,dge,cond_false])
  (fun i x hx=>by
   have hi:=(List.getElem?_eq_some_iff.1 hx).1
   simp only[zle,dlt hi,zai,hx,cond_true,zap (show i<9223372036854775807 by omega)]
   cases x==d<;>rfl)
 rw[show zae zle (d,0,c,())=_ from h,zca]
theorem zau4 {c:Calendar} (hc:CalOk c) (d:Int):q8 c d=some (zhi c d):=by
 unfold q8 zhi
 simp -zeta only[k_or]
 dsimp only
 rw[←zlb]
 cases hr:rng 0 109572 d with
 |false=>rfl
 |true=>
  have hk:qfg d=some (d.tmod 7):=by
   have e:qf4 d=some (rng 0 109572 d):=by
    unfold qf4
    simp -zeta only[za7]
    try rfl
   unfold qfg
   rw[e,hr]
   try rfl
  simp only[Bool.not_true,cond_false,Bool.true_and,hk]
  obtain ⟨h1,h2⟩:=zayx (zbw.1 hr).1
  generalize d.tmod 7=w at h1 h2
  obtain ⟨n,rfl⟩:∃n:Nat,w=(n:Int):=⟨w.toNat,by omega⟩
  have hn:n<7:=by omega
  have hw:zae z17 (d,c.Week,(n:Int),0,c,())=some (d,bitW c.Week n,c,()):=by
   have:=z84 (day:=d) (n:=0) (c:=c) n 0 c.Week (by omega)
   rw[Nat.zero_add]at this
   exact zbf (n+1) (by rw[za6];omega) this
  simp only[hw,Int.toNat_natCast,zacq hc.w1 hc.w2 hn,z16 hc.len]
  cases (bitW c.Week n).tmod 2==1 with
  |true=>simp
  |false=>
   simp only[cond_false,Bool.not_false,Bool.and_true,z3q,Bool.not_not]
   cases c.Closed.all (fun x=>!(x==d))<;>rfl
theorem zt6 {α β:Type} {s1 s2:α→Option (α⊕β)} (Inv:α→Prop) (h:∀a,Inv a→s1 a=s2 a) (hi:∀a b,Inv a→s1 a=some (.inl b)→Inv b) {a:α} (ha:Inv a):zae s1 a=zae s2 a:=by
 have key:∀n a,Inv a→za1 s1 n a=za1 s2 n a:=by
  intro n
  induction n with
  |zero=>intro a _;rfl
  |succ n ih=>
   intro a ha
   simp only[za1]
   rw[←h a ha]
   cases hs:s1 a with
   |none=>rfl
   |some x=>
    cases x with
    |inl b=>exact ih b (hi a b ha hs)
    |inr b=>rfl
 exact key FUEL a ha
theorem z85 {c:Calendar} (hc:CalOk c) (d:Int):qa5 c d=qbn c d:=by
 have h:∀d0:Int,zae ztl (d0,c,())=zae zof (d0,c,()):=fun d0=>by
  refine zt6 (fun a=>a.2.1=c) ?_ ?_ rfl
  ·rintro ⟨d,c',_⟩ (rfl:c'=c)
   simp only[ztl,zof,zamr hc,zau4 hc]
  ·rintro ⟨d,c',_⟩ b (rfl:c'=c) hb
   simp only[ztl,zamr hc]at hb
   cases hq:decide (d≤109572) with
   |false=>rw[hq]at hb;cases hb
   |true=>
    rw[hq]at hb
    simp only[cond_true]at hb
    cases ho:zhi c' d with
    |true=>rw[ho]at hb;cases hb
    |false=>rw[ho]at hb;cases hb;rfl
 unfold qa5 qbn
 rw[h]
 try rfl
end Go.Proofs.YtdahfgialanmpaaGreatDoor
namespace Go.Proofs.YtdahfgialanmpaaGreatDoor
open Ev
open Go (IntKind)
end Go.Proofs.YtdahfgialanmpaaGreatDoor
namespace Go.Proofs.YtdahfgialanmpaaGreatDoor
open Ev
open Go (IntKind)
theorem zpx {l:List Loan} {item:Int} (hl:l.length<1000000000):qbo (fun (g:Unit×Int×Unit) x0=>qch x0 g.2.1) l ((),(item,())) =
 some (match l.find? (fun n=>n.Item==item) with|some x=>(x,fIdx (fun n=>n.Item==item) l)|none=>((⟨0,0,0,0,0,false⟩:Loan),-1)):=by
 unfold qbo
 rw[za3j (p:=fun (g:Unit×Int×Unit) x0=>qch x0 g.2.1) (g:=((),(item,()))) (fun x=>x.Item==item) hl (fun x _=>rfl)]
 rcases zbb (fun x:Loan=>x.Item==item) l with ⟨h1,h2⟩|⟨i,x,h1,h2,h3,h4⟩
 ·simp only[h1,h2,zpn,cond_true]
 ·simp only[h1,h4,ziz,cond_false,zai,h2]
def zcr (c:Circ) (l:List Loan):Circ:=⟨c.Today,c.Items,c.Patrons,l,c.Holds,c.Charges,c.Rules,c.Cals,c.Moves,c.NextHold,c.NextCharge,c.Local⟩
theorem zpm (c:Circ) (l:List Loan):qcn l 0 ⟨c,0⟩=some ((),⟨zcr c l,0⟩):=rfl
end Go.Proofs.YtdahfgialanmpaaGreatDoor
namespace Go.Proofs.YtdahfgialanmpaaGreatDoor
open Ev
open Go (IntKind)
structure FitP (c:Circ):Prop where
 charges:za2 c.Charges=0
 loans:zhf c.Loans=0
 holds:zd0 c.Holds=0
 rules:zgb c.Rules=0
 patrons:ze8 c.Patrons=0
 cal0:CalOk c.Cals.x0
 cal1:CalOk c.Cals.x1
 cal2:CalOk c.Cals.x2
 cal3:CalOk c.Cals.x3
 items:zik c=true
 loanG:∀n∈c.Loans,zhe c n=true
 itemG:∀x∈c.Items,(zrm c.Loans x.ID).2=zhk x.Custody
 holdG:∀h∈c.Holds,zf9 c h=true
 readyG:∀x∈c.Items,zf2 c x=true
 nums:zp8 c=true
theorem fitP {c:Circ} (h:zon c=true):FitP c:=by
 unfold zon at h
 rw[zrw]at h
 simp only[Bool.and_eq_true]at h
 obtain ⟨h1,h2,h3,h4,h5,h6,h7⟩:=h
 unfold zks at h2
 simp only[Bool.not_eq_true',Bool.or_eq_false_iff,Bool.not_eq_false',beq_iff_eq]at h2
 unfold zg1 at h3
 simp only[Bool.and_eq_true]at h3
 unfold zfz at h6
 unfold zfx at h7
 simp only[Bool.and_eq_true,List.all_eq_true,beq_iff_eq]at h6 h7
 exact ⟨h2.1.2,h2.1.1.1.2,h2.1.1.2,h2.2,h2.1.1.1.1,zada h3.1,zada h3.2.1,zada h3.2.2.1,zada h3.2.2.2,h5,h6.1,h6.2,h7.1,h7.2,h1⟩
theorem zaob {c:Circ} (h:FitP c) (b:Int):CalOk (calS c b):=by
 unfold calS
 cases b==1 with
 |true=>exact h.cal0
 |false=>
  cases b==2 with
  |true=>exact h.cal1
  |false=>
   cases b==3 with
   |true=>exact h.cal2
   |false=>exact h.cal3
theorem zavf {c:Circ} (h:FitP c) {r:Rule} (hr:r∈c.Rules):zir r=true:=by
 have h:=h.rules
 unfold zgb at h
 rw[zb4 h (by decide)]at h
 obtain ⟨i,hi⟩:=List.getElem?_of_mem hr
 have:=zkh (k:=0) h i r hi
 rw[Nat.zero_add]at this
 unfold zgv at this
 have:=zb4 this (by decide)
 simpa using this
def zfd (c:Custody):Prop:=rng 1 4 c.Branch=true
theorem ztr {c:Custody} (h:zh9 c=true):zfd c:=by
 unfold zh9 at h
 unfold zfd
 cases hq:(decide (c.State<1)||decide (12<c.State)||decide (c.Branch<1)||decide (4<c.Branch)) with
 |true=>rw[hq]at h;cases h
 |false=>
  simp only[Bool.or_eq_false_iff,decide_eq_false_iff_not]at hq
  rw[zbw];omega
theorem zqk {m:Move} (h:zia m=true):rng 1 4 m.Branch=true:=by
 unfold zia at h
 simp only[Bool.and_eq_true,decide_eq_true_eq]at h
 rw[zbw];omega
theorem zgy {c:Custody} {m:Move} (h:((za8 c m).2==0)=true):zfd (za8 c m).1:=by
 unfold za8 at h ⊢
 cases e1:(!(zh9 c)||!(zia m)) with
 |true=>rw[e1]at h;cases h
 |false=>
  have e0:=e1
  simp only[Bool.or_eq_false_iff,Bool.not_eq_false']at e0
  have b1:=ztr e0.1
  have b2:=zqk e0.2
  rw[e1]at h
  simp only[cond_false]at h ⊢
  cases e2:!(zif c.State m.Kind) with
  |true=>rw[e2]at h;cases h
  |false=>
   rw[e2]at h
   simp only[cond_false]at h ⊢
   cases e3:(m.Kind==3&&c.State==5&&!(m.Who==c.Who)) with
   |true=>rw[e3]at h;cases h
   |false=>
    rw[e3]at h
    simp only[cond_false]at h ⊢
    cases e4:!(z2h c m) with
    |true=>rw[e4]at h;cases h
    |false=>
     simp only[cond_false]
     cases (zcy m.Kind==2) with
     |true=>exact b2
     |false=>
      simp only[cond_false]
      cases (zcy m.Kind==4||(zcy m.Kind==5||zcy m.Kind==8)) with
      |true=>exact b1
      |false=>
       simp only[cond_false]
       cases e5:(zcy m.Kind==6) with
       |true=>exact b1
       |false=>
        simp only[cond_false]
        cases (zcy m.Kind==9||zcy m.Kind==10) with
        |true=>exact b1
        |false=>exact b1
theorem zm0:∀{l:List Move} {i:Nat} {item:Int} {c d:Custody},zfd c→zdi i l item c=.inl d→zfd d:=by
 intro l
 induction l with
 |nil=>intro i item c d hc h;simp only[zdi]at h;cases h;exact hc
 |cons x l ih=>
  intro i item c d hc h
  simp only[zdi]at h
  cases e:x.Item==item with
  |false=>rw[e]at h;exact ih hc h
  |true=>
   rw[e]at h
   simp only[cond_true]at h
   cases e2:(za8 c x).2==0 with
   |true=>rw[e2]at h;exact ih (zgy e2) h
   |false=>rw[e2]at h;cases h
theorem zlz {c:Circ} {x:Item} (h:zc4 c x=true):zfd x.Custody:=by
 unfold zc4 at h
 simp only[Bool.not_eq_true',Bool.or_eq_false_iff,Bool.not_eq_false',beq_iff_eq]at h
 obtain ⟨h1,h2⟩:=h
 have e:=zkg.1 h2
 rw[←e]
 unfold zec at h1 ⊢
 cases hb:(decide (x.Branch<1)||decide (4<x.Branch)) with
 |true=>rw[hb]at h1;cases h1
 |false=>
  rw[hb]at h1
  simp only[cond_false]at h1 ⊢
  have hb2:zfd (zvq x.Branch):=by
   simp only[Bool.or_eq_false_iff,decide_eq_false_iff_not]at hb
   show rng 1 4 x.Branch=true
   rw[zbw];omega
  cases hr:zdi 0 c.Moves x.ID (zvq x.Branch) with
  |inl d=>exact zm0 hb2 hr
  |inr p=>
   rw[hr]at h1
   exfalso
   obtain ⟨i,e⟩:=p
   simp only at h1
   have key:∀(l:List Move) (i:Nat) (c:Custody) (p:Int×Int),zdi i l x.ID c=.inr p→p.2≠0:=by
    intro l
    induction l with
    |nil=>intro i c p h;simp only[zdi]at h;cases h
    |cons y l ih=>
     intro i c p h
     simp only[zdi]at h
     cases e:y.Item==x.ID with
     |false=>rw[e]at h;exact ih _ _ _ h
     |true=>
      rw[e]at h
      simp only[cond_true]at h
      cases e2:(za8 c y).2==0 with
      |true=>rw[e2]at h;exact ih _ _ _ h
      |false=>rw[e2]at h;cases h;simpa using e2
   exact key _ _ _ _ hr h1
theorem z06 {c:Circ} (h:FitP c) {x:Item} (hx:x∈c.Items):rng 1 4 x.Custody.Branch=true:=zlz (zrx h.items hx)
theorem z32 {l:List Rule} {p it br:Int}:zfq l (zac7 l p it br):=by
 have key:∀(m:List Rule) (i:Nat) (b:Int),i+m.length=l.length→zfq l b→zfq l (zc5 (σ:=Int) (β:=Int) (fun i x b=>.inl (zqv l p it br i x b)) (fun b=>b) i m b):=by
  intro m
  induction m with
  |nil=>intro i b _ h;exact h
  |cons x m ih=>intro i b hi h;simp only[zc5];simp only[List.length_cons]at hi;exact ih _ _ (by omega) (zjt h (by omega))
 exact key l 0 (-1) (by omega) (.inl (by omega))
theorem z9w {c:Circ} (hs:Short c) {p:Int} {x:Item}:∃r b,qe6 c p x=some (r,b)∧(b=true→r∈c.Rules):=by
 unfold qe6
 rw[zls hs.patrons]
 dsimp only
 cases (getP c.Patrons p).2 with
 |false=>exact ⟨_,false,rfl,fun h=>by cases h⟩
 |true=>
  simp only[Bool.not_true,cond_false]
  unfold qf3
  rw[zamg hs.rules]
  dsimp only
  rcases z32 (l:=c.Rules) (p:=(getP c.Patrons p).1.Kind) (it:=x.Kind) (br:=x.Branch) with h|⟨k,hk,hlt⟩
  ·rw[show decide (zac7 c.Rules (getP c.Patrons p).1.Kind x.Kind x.Branch<0)=true by rw[decide_eq_true_eq];exact h]
   exact ⟨_,false,rfl,fun h=>by cases h⟩
  ·rw[hk,show decide ((k:Int)<0)=false by rw[decide_eq_false_iff_not];omega]
   simp only[cond_false,zai,List.getElem?_eq_getElem hlt]
   exact ⟨_,true,rfl,fun _=>List.getElem_mem hlt⟩
end Go.Proofs.YtdahfgialanmpaaGreatDoor
namespace Go.Proofs.YtdahfgialanmpaaGreatDoor
open Ev
open Go (IntKind)
theorem ziu {α β:Type} {step:α→Option (α⊕β)} (Inv:α→Prop) (μ:α→Nat) (h:∀a,Inv a→(∃a',step a=some (.inl a')∧Inv a'∧μ a'<μ a)∨∃b,step a=some (.inr b)) {a:α} (ha:Inv a) (hm:μ a<FUEL):∃r,zae step a=some r:=by
 have key:∀n a,Inv a→μ a<n→∃r,za1 step n a=some r:=by
  intro n
  induction n with
  |zero=>intro a _ h;omega
  |succ n ih=>
   intro a hi hn
   simp only[za1]
   rcases h a hi with ⟨a',h1,h2,h3⟩|⟨b,h1⟩
   ·rw[h1];exact ih a' h2 (by omega)
   ·rw[h1];exact ⟨b,rfl⟩
 exact key FUEL a ha hm
theorem zth {c:Calendar} (hc:CalOk c) (d:Int):∃a b,qbn c d=some (a,b):=by
 obtain ⟨r,hr⟩:=ziu (step:=zof) (fun a=>0≤a.1∧a.2.1=c) (fun a=>(109573-a.1).toNat) (by
  rintro ⟨d,c',_⟩ ⟨h0,(rfl:c'=c)⟩
  simp only at h0
  simp only[zof,zau4 hc]
  by_cases hq:d≤109572
  ·rw[show decide (d≤109572)=true by rw[decide_eq_true_eq];exact hq]
   simp only[cond_true]
   cases zhi c' d with
   |true=>exact .inr ⟨_,rfl⟩
   |false=>
    simp only[cond_false]
    rw[zcn (by omega) (by omega)]
    exact .inl ⟨_,rfl,⟨by show 0≤d+1;omega,rfl⟩,by show (109573-(d+1)).toNat<(109573-d).toNat;omega⟩
  ·rw[show decide (d≤109572)=false by rw[decide_eq_false_iff_not];exact hq]
   exact .inr ⟨_,rfl⟩) (a:=((if d<0 then 0 else d),c,())) ⟨by show 0≤if d<0 then 0 else d;split<;>omega,rfl⟩ (by rw[za6];show (109573-if d<0 then 0 else d).toNat<_;split<;>omega)
 unfold qbn
 rw[hr]
 rcases r with _|⟨a,b,_⟩
 ·exact ⟨_,_,rfl⟩
 ·exact ⟨_,_,rfl⟩
theorem zwz {α β:Type} {b:Bool} {x y:Option (α×β)} (hx:∃u v,x=some (u,v)) (hy:∃u v,y=some (u,v)):∃u v,(bif b then x else y)=some (u,v):=by
 cases b
 ·exact hy
 ·exact hx
end Go.Proofs.YtdahfgialanmpaaGreatDoor
namespace Go.Proofs.YtdahfgialanmpaaGreatDoor
open Ev
open Go (IntKind)
def getH (l:List Hold) (id:Int):Hold×Bool:=match l.find? (fun h=>h.ID==id) with|some h=>(h,true)|none=>(zim,false)
theorem za21 {l:List Hold} {id:Int} (hl:l.length<1000000000):qd9 l id=some (getH l id):=by
 unfold qd9 qbg getH
 rw[zzo (p:=fun (g:Unit×Int×Unit) x0=>qen x0 g.2.1) (g:=((),(id,()))) (fun x=>x.ID==id) hl (fun x _=>rfl)]
 rcases zbb (fun x:Hold=>x.ID==id) l with ⟨h1,h2⟩|⟨i,x,h1,h2,h3,h4⟩
 ·simp only[h1,h2]
  try rfl
 ·have d:decide ((0:Int)≤(i:Int))=true:=by rw[decide_eq_true_eq];omega
  simp only[h1,h4,d,cond_true,zai,h2]
theorem z87 {l:List Hold} {id:Int} (hl:l.length<1000000000):qax l id=some (getH l id):=by
 unfold qax getH
 have h:=zba (step:=zn9) (fun i=>(l,id,(i:Int),zim,())) l (fun x=>x.ID==id) (fun _ x=>(.inr (true,x,()):(Hold×Unit)⊕(Bool×Hold×Unit))) (.inl (zim,())) hl
  (by simp only[zn9,dge,cond_false])
  (fun i x hx=>by
   have hi:=(List.getElem?_eq_some_iff.1 hx).1
   simp only[zn9,dlt hi,zai,hx,cond_true,zap (show i<9223372036854775807 by omega)])
 rw[show zae zn9 (l,id,0,(⟨0,0,0,0,0,0,0,0,0,0,0⟩:Hold),())=_ from h,ze3]
 cases l.find? (fun x=>x.ID==id)<;>rfl
theorem zt5 {α β γ:Type} {s1:α→Option (α⊕β)} {s2:γ→Option (γ⊕β)} (Inv:α→Prop) (φ:α→γ)
 (h:∀a,Inv a→s2 (φ a)=(match s1 a with|none=>none|some (.inl b)=>some (.inl (φ b))|some (.inr b)=>some (.inr b)))
 (hi:∀a b,Inv a→s1 a=some (.inl b)→Inv b) {a:α} (ha:Inv a):zae s2 (φ a)=zae s1 a:=by
 have key:∀n a,Inv a→za1 s2 n (φ a)=za1 s1 n a:=by
  intro n
  induction n with
  |zero=>intro a _;rfl
  |succ n ih=>
   intro a ha
   simp only[za1]
   rw[h a ha]
   cases hs:s1 a with
   |none=>rfl
   |some x=>
    cases x with
    |inl b=>exact ih b (hi a b ha hs)
    |inr b=>rfl
 exact key FUEL a ha
theorem z88 {c:Calendar} (hc:CalOk c) (day n:Int):qay c day n=qby c day n:=by
 have hw:zae zlq (n,day,0,c,())=zae zoa (day,n,0,c,()):=by
  refine zt5 (s1:=zoa) (s2:=zlq) (fun a=>a.2.2.2.1=c) (fun a=>(a.2.1,a.1,a.2.2.1,a.2.2.2.1,())) ?_ ?_ (a:=(day,n,0,c,())) rfl
  ·rintro ⟨d,n,i,c',_⟩ (rfl:c'=c)
   simp only[zoa,zlq,z85 hc]
   cases decide (i<n) with
   |false=>rfl
   |true=>
    simp only[cond_true]
    cases qbn c' (wr .i64 (d+1)) with
    |none=>rfl
    |some p=>
     obtain ⟨a,b⟩:=p
     simp only
     cases !(b==0)<;>rfl
  ·rintro ⟨d,n,i,c',_⟩ b (rfl:c'=c) hb
   simp only[zoa]at hb
   cases hq:decide (i<n) with
   |false=>rw[hq]at hb;cases hb
   |true=>
    rw[hq]at hb
    simp only[cond_true]at hb
    cases hn:qa5 c' (wr .i64 (d+1)) with
    |none=>rw[hn]at hb;cases hb
    |some p=>
     obtain ⟨a,b2⟩:=p
     rw[hn]at hb
     simp only at hb
     cases he:!(b2==0) with
     |true=>rw[he]at hb;cases hb
     |false=>rw[he]at hb;cases hb;rfl
 unfold qay qby
 simp -zeta only[k_or,z9d,z85 hc]
 dsimp only
 rw[hw,←zlb 0 109572]
 try rfl
end Go.Proofs.YtdahfgialanmpaaGreatDoor
namespace Go.Proofs.YtdahfgialanmpaaGreatDoor
open Ev
open Go (IntKind)
theorem zatj {c:Circ} (h:FitP c) {x:Item} (hx:x∈c.Items):1≤x.ID∧x.ID≤9999:=by
 have h:=h.items
 unfold zik at h
 simp only[Bool.and_eq_true]at h
 obtain ⟨i,hi⟩:=List.getElem?_of_mem hx
 have:=(zjn.1 h.2.1) i x hi
 rw[Nat.zero_add]at this
 simp only[Bool.not_eq_true',Bool.or_eq_false_iff,Bool.not_eq_false']at this
 have h2:=this.1
 unfold zc2 at h2
 simp only[Bool.and_eq_true,zbw]at h2
 omega
def za14:Loan:=⟨0,0,0,0,0,false⟩
theorem znk {c:Calendar} (hc:CalOk c) (d n:Int):∃a b,qby c d n=some (a,b):=by
 unfold qby
 simp -zeta only[k_or]
 dsimp only
 cases hb:(decide (n<0)||decide (1000<n)) with
 |true=>exact ⟨_,_,rfl⟩
 |false=>
  simp only[Bool.or_eq_false_iff,decide_eq_false_iff_not]at hb
  simp only[cond_false]
  refine zwz ⟨_,_,rfl⟩ (zwz ?_ ?_)
  ·obtain ⟨a,b,h⟩:=zth hc d
   rw[h]
   exact ⟨_,_,rfl⟩
  ·obtain ⟨r,hr⟩:=ziu (step:=zlq) (fun a=>a.1=n∧0≤a.2.2.1∧a.2.2.2.1=c) (fun a=>(n-a.2.2.1).toNat) (by
    rintro ⟨n',d,i,c',_⟩ ⟨(rfl:n'=n),h0,(rfl:c'=c)⟩
    simp only at h0
    simp only[zlq]
    by_cases hq:i<n'
    ·rw[show decide (i<n')=true by rw[decide_eq_true_eq];exact hq]
     obtain ⟨a,b,h⟩:=zth hc (wr .i64 (d+1))
     simp only[cond_true,h]
     cases !(b==0) with
     |true=>exact .inr ⟨_,rfl⟩
     |false=>
      simp only[cond_false]
      rw[zcn (n:=i+1) (by omega) (by omega)]
      exact .inl ⟨_,rfl,⟨rfl,by show 0≤i+1;omega,rfl⟩,by show (n'-(i+1)).toNat<(n'-i).toNat;omega⟩
    ·rw[show decide (i<n')=false by rw[decide_eq_false_iff_not];exact hq]
     exact .inr ⟨_,rfl⟩) (a:=(n,d,0,c,())) ⟨rfl,by show (0:Int)≤0;omega,rfl⟩ (by rw[za6];show (n-0).toNat<_;omega)
   rw[hr]
   rcases r with ⟨a,_⟩|⟨a,b,_⟩
   ·exact ⟨_,_,rfl⟩
   ·exact ⟨_,_,rfl⟩
end Go.Proofs.YtdahfgialanmpaaGreatDoor
namespace Go.Proofs.YtdahfgialanmpaaGreatDoor
open Ev
open Go (IntKind)
def insW {X:Type} (lt:X→X→Bool) (y:X):List X→List X→List X
 | [],rest=>y::rest
 |z::zs,rest=>bif lt y z then insW lt y zs (z::rest) else zs.reverse++z::y::rest
theorem z62 {X:Type} {lt:X→X→Bool} {y:X}:∀{r rest more:List X},insW lt y r (rest++more)=insW lt y r rest++more:=by
 intro r
 induction r with
 |nil=>intro rest more;rfl
 |cons z zs ih=>
  intro rest more
  simp only[insW]
  cases lt y z with
  |true=>simp only[cond_true];rw[←List.cons_append,ih]
  |false=>simp
theorem z1e {X:Type} {lt:X→X→Bool} {y:X}:∀{B A rest:List X},(∀b∈B,lt y b=true)→(∀a∈A,lt y a=false)→insW lt y (B++A) rest=A.reverse++y::(B.reverse++rest):=by
 intro B
 induction B with
 |nil=>
  intro A rest _ hA
  cases A with
  |nil=>rfl
  |cons a A=>simp only[List.nil_append,insW,hA a (List.mem_cons_self ..),cond_false,List.reverse_cons,List.append_assoc,List.reverse_nil];rfl
 |cons b B ih=>
  intro A rest hB hA
  simp only[List.cons_append,insW,hB b (List.mem_cons_self ..),cond_true]
  rw[ih (fun b hb=>hB b (List.mem_cons_of_mem _ hb)) hA]
  simp
section
variable {γ:Type} {p:γ→Hold→Hold→Option Int} {g:γ} {lt:Hold→Hold→Bool}
theorem zati (hp:∀y z,∃n,p g y z=some n∧decide (n<0)=lt y z) {b i:Int}:∀(r:List Hold) (y:Hold) (rest:List Hold),r.length<1000000→
 za1 (z2o p) (r.length+1) (0,b,g,i,(r.length:Int),r.reverse++y::rest,())=some (0,b,g,i,insW lt y r rest,()):=by
 intro r
 induction r with
 |nil=>
  intro y rest _
  simp only[List.length_nil,za1,insW,z2o]
  try rfl
 |cons z zs ih=>
  intro y rest hl
  simp only[List.length_cons]at hl
  obtain ⟨n,h1,h2⟩:=hp y z
  have d:decide ((0:Int)<((zs.length+1:Nat):Int))=true:=by rw[decide_eq_true_eq];omega
  have w:=zfl (j:=zs.length) (by omega)
  have e:(z::zs).reverse++y::rest=zs.reverse++z::y::rest:=by simp
  have gy:(zs.reverse++z::y::rest)[zs.length+1]?=some y:=by rw[List.getElem?_append_right (by simp)];simp
  have gz:(zs.reverse++z::y::rest)[zs.length]?=some z:=by rw[List.getElem?_append_right (by simp)];simp
  have s1:(zs.reverse++z::y::rest).set (zs.length+1) z=zs.reverse++z::z::rest:=by
   rw[List.set_append_right _ _ (by simp)];simp
  have gz2:(zs.reverse++z::z::rest)[zs.length]?=some z:=by rw[List.getElem?_append_right (by simp)];simp
  have s2:(zs.reverse++z::z::rest).set zs.length y=zs.reverse++y::z::rest:=by
   rw[List.set_append_right _ _ (by simp)];simp
  rw[za1,e]
  simp only[List.length_cons,z2o,d,cond_true,w,zai,Int.toNat_natCast,gy,gz,h1,h2,s1,gz2,s2,insW]
  cases lt y z with
  |true=>simp only[cond_true];exact ih y (z::rest) (by omega)
  |false=>rfl
def zfb (lt:Hold→Hold→Bool) (l:List Hold):List Hold:=l.foldl (fun pre y=>insW lt y pre.reverse []) []
theorem zgc {l:List Hold} {y:Hold}:zfb lt (l++[y])=insW lt y (zfb lt l).reverse []:=by
 unfold zfb
 rw[List.foldl_append];rfl
theorem zvb {y:Hold}:∀{r rest:List Hold},(insW lt y r rest).length=r.length+1+rest.length:=by
 intro r
 induction r with
 |nil=>intro rest;simp[insW];omega
 |cons z zs ih=>
  intro rest
  simp only[insW]
  cases lt y z with
  |true=>simp only[cond_true];rw[ih];simp;omega
  |false=>simp;omega
theorem ztz:∀{l:List Hold},(zfb lt l).length=l.length:=by
 have key:∀(l pre:List Hold),(l.foldl (fun pre y=>insW lt y pre.reverse []) pre).length=pre.length+l.length:=by
  intro l
  induction l with
  |nil=>intro pre;rfl
  |cons y l ih=>intro pre;rw[List.foldl_cons,ih,zvb];simp;omega
 intro l
 unfold zfb
 rw[key];simp
theorem zah8 (hp:∀y z,∃n,p g y z=some n∧decide (n<0)=lt y z) {l:List Hold} (hl:l.length<1000000):∀(k i:Nat),i+k=l.length→
 za1 (z2n p) (k+1) (0,(l.length:Int),g,(i:Int),zfb lt (l.take i)++l.drop i,())=some (zfb lt l,()):=by
 intro k
 induction k with
 |zero=>
  intro i hi
  have:i=l.length:=by omega
  subst this
  have d:decide ((l.length:Int)<(l.length:Int))=false:=by rw[decide_eq_false_iff_not];omega
  simp only[za1,z2n,d,cond_false,List.take_length,List.drop_length,List.append_nil]
 |succ k ih=>
  intro i hi
  have hlt:i<l.length:=by omega
  have d:decide ((i:Int)<(l.length:Int))=true:=by rw[decide_eq_true_eq];omega
  have hlen:(zfb lt (l.take i)).length=i:=by rw[ztz,List.length_take];omega
  have hr:=zati (p:=p) (g:=g) (lt:=lt) hp (b:=(l.length:Int)) (i:=(i:Int)) (zfb lt (l.take i)).reverse l[i] (l.drop (i+1)) (by rw[List.length_reverse,hlen];omega)
  rw[List.length_reverse,List.reverse_reverse,hlen,←List.drop_eq_getElem_cons hlt]at hr
  have hw:zae (z2o p) (0,(l.length:Int),g,(i:Int),(i:Int),zfb lt (l.take i)++l.drop i,())=_:=zbf (i+1) (by rw[za6];omega) hr
  rw[za1]
  simp only[z2n,d,cond_true,hw,zap (show i<9223372036854775807 by omega)]
  have e:insW lt l[i] (zfb lt (l.take i)).reverse (l.drop (i+1))=zfb lt (l.take (i+1))++l.drop (i+1):=by
   have:=z62 (lt:=lt) (y:=l[i]) (r:=(zfb lt (l.take i)).reverse) (rest:=[]) (more:=l.drop (i+1))
   rw[List.nil_append]at this
   rw[this,List.take_succ_eq_append_getElem hlt,zgc]
  rw[e]
  exact ih (i+1) (by omega)
theorem zayv (hp:∀y z,∃n,p g y z=some n∧decide (n<0)=lt y z) {l:List Hold} (hl:l.length<20):qeb p l g=some (zfb lt l):=by
 have h1:zae (zahv p) ((l.length:Int),g,20,0,20,l,())=some ((l.length:Int),g,20,0,l,()):=by
  refine zbf 1 (by rw[za6];omega) ?_
  have d:decide ((20:Int)≤(l.length:Int))=false:=by rw[decide_eq_false_iff_not];omega
  simp only[za1,zahv,d,cond_false]
 have h2:∀m:List Hold,zae (zahw p) ((l.length:Int),g,20,m,())=some (m,()):=fun m=>by
  refine zbf 1 (by rw[za6];omega) ?_
  have d:decide ((20:Int)<(l.length:Int))=false:=by rw[decide_eq_false_iff_not];omega
  simp only[za1,zahw,d,cond_false]
 have h3:qq p l 0 (l.length:Int) g=some (zfb lt l):=by
  unfold qq
  have hw:zae (z2n p) (0,(l.length:Int),g,wr .i64 (0+1),l,())=some (zfb lt l,()):=by
   cases l with
   |nil=>
    refine zbf 1 (by rw[za6];omega) ?_
    try rfl
   |cons y m=>
    have:=zah8 (p:=p) (g:=g) (lt:=lt) hp (l:=y::m) (by omega) m.length 1 (by simp only[List.length_cons];omega)
    exact zbf (m.length+1) (by rw[za6];simp only[List.length_cons]at hl;omega) this
  rw[hw]
 unfold qeb qp
 rw[h1]
 simp only[h3,h2]
end
end Go.Proofs.YtdahfgialanmpaaGreatDoor
namespace Go.Proofs.YtdahfgialanmpaaGreatDoor
open Ev
open Go (IntKind)
def rk (k:Int) (l:List Hold):List Hold:=l.filter (fun x=>x.Rank==k)
def ltR (y z:Hold):Bool:=decide (z.Rank<y.Rank)
def zaz (l:List Hold):List Hold:=rk 9 l++(rk 8 l++(rk 7 l++(rk 6 l++(rk 5 l++(rk 4 l++(rk 3 l++(rk 2 l++(rk 1 l++rk 0 l))))))))
theorem za33 {k:Int} {l:List Hold} {x:Hold} (h:x∈rk k l):x.Rank=k:=by
 unfold rk at h
 rw[List.mem_filter]at h
 simpa using h.2
theorem zes (k:Int) (l:List Hold) (y:Hold):rk k (l++[y])=rk k l++(bif y.Rank==k then [y] else []):=by
 unfold rk
 rw[List.filter_append,List.filter_cons]
 cases y.Rank==k<;>simp
theorem zath {A B:List Hold} {y:Hold} (hA:∀a∈A,y.Rank≤a.Rank) (hB:∀b∈B,b.Rank<y.Rank):insW ltR y (A++B).reverse []=A++y::B:=by
 rw[List.reverse_append,z1e (by intro b hb;rw[List.mem_reverse]at hb;unfold ltR;rw[decide_eq_true_eq];exact hB b hb) (by intro a ha;rw[List.mem_reverse]at ha;unfold ltR;rw[decide_eq_false_iff_not];have:=hA a ha;omega)]
 simp
theorem zwd:∀(m:List Hold) (l:List Hold),l=m.reverse→(∀x∈l,rng 0 9 x.Rank=true)→zfb ltR l=zaz l:=by
 intro m
 induction m with
 |nil=>intro l h _;subst h;rfl
 |cons y m ih=>
  intro l h hr
  rw[List.reverse_cons]at h
  subst h
  have hy:=zbw.1 (hr y (by simp))
  rw[zgc,ih m.reverse rfl (fun x hx=>hr x (by simp at hx ⊢;exact .inl hx))]
  generalize m.reverse=l
  have hc:y.Rank=0∨y.Rank=1∨y.Rank=2∨y.Rank=3∨y.Rank=4∨y.Rank=5∨y.Rank=6∨y.Rank=7∨y.Rank=8∨y.Rank=9:=by omega
  have mid:∀(A B:List Hold),zaz l=A++B→(∀a∈A,y.Rank≤a.Rank)→(∀b∈B,b.Rank<y.Rank)→insW ltR y (zaz l).reverse []=A++y::B:=fun A B e hA hB=>by rw[e];exact zath hA hB
  have mm:∀(k:Int) (x:Hold),x∈rk k l→x.Rank=k:=fun k x h=>za33 h
  rcases hc with h|h|h|h|h|h|h|h|h|h
  ·rw[mid (rk 9 l++(rk 8 l++(rk 7 l++(rk 6 l++(rk 5 l++(rk 4 l++(rk 3 l++(rk 2 l++(rk 1 l++rk 0 l))))))))) [] (by simp[zaz]) (by intro a ha;simp only[List.mem_append]at ha;rcases ha with h|h|h|h|h|h|h|h|h|h<;>(have:=mm _ _ h;omega)) (by intro b hb;cases hb)]
   simp[zaz,zes,h]
  ·rw[mid (rk 9 l++(rk 8 l++(rk 7 l++(rk 6 l++(rk 5 l++(rk 4 l++(rk 3 l++(rk 2 l++rk 1 l)))))))) (rk 0 l) (by simp[zaz]) (by intro a ha;simp only[List.mem_append]at ha;rcases ha with h|h|h|h|h|h|h|h|h<;>(have:=mm _ _ h;omega)) (by intro b hb;have:=mm _ _ hb;omega)]
   simp[zaz,zes,h]
  ·rw[mid (rk 9 l++(rk 8 l++(rk 7 l++(rk 6 l++(rk 5 l++(rk 4 l++(rk 3 l++rk 2 l))))))) (rk 1 l++rk 0 l) (by simp[zaz]) (by intro a ha;simp only[List.mem_append]at ha;rcases ha with h|h|h|h|h|h|h|h<;>(have:=mm _ _ h;omega)) (by intro b hb;simp only[List.mem_append]at hb;rcases hb with h|h<;>(have:=mm _ _ h;omega))]
   simp[zaz,zes,h]
  ·rw[mid (rk 9 l++(rk 8 l++(rk 7 l++(rk 6 l++(rk 5 l++(rk 4 l++rk 3 l)))))) (rk 2 l++(rk 1 l++rk 0 l)) (by simp[zaz]) (by intro a ha;simp only[List.mem_append]at ha;rcases ha with h|h|h|h|h|h|h<;>(have:=mm _ _ h;omega)) (by intro b hb;simp only[List.mem_append]at hb;rcases hb with h|h|h<;>(have:=mm _ _ h;omega))]
   simp[zaz,zes,h]
  ·rw[mid (rk 9 l++(rk 8 l++(rk 7 l++(rk 6 l++(rk 5 l++rk 4 l))))) (rk 3 l++(rk 2 l++(rk 1 l++rk 0 l))) (by simp[zaz]) (by intro a ha;simp only[List.mem_append]at ha;rcases ha with h|h|h|h|h|h<;>(have:=mm _ _ h;omega)) (by intro b hb;simp only[List.mem_append]at hb;rcases hb with h|h|h|h<;>(have:=mm _ _ h;omega))]
   simp[zaz,zes,h]
  ·rw[mid (rk 9 l++(rk 8 l++(rk 7 l++(rk 6 l++rk 5 l)))) (rk 4 l++(rk 3 l++(rk 2 l++(rk 1 l++rk 0 l)))) (by simp[zaz]) (by intro a ha;simp only[List.mem_append]at ha;rcases ha with h|h|h|h|h<;>(have:=mm _ _ h;omega)) (by intro b hb;simp only[List.mem_append]at hb;rcases hb with h|h|h|h|h<;>(have:=mm _ _ h;omega))]
   simp[zaz,zes,h]
  ·rw[mid (rk 9 l++(rk 8 l++(rk 7 l++rk 6 l))) (rk 5 l++(rk 4 l++(rk 3 l++(rk 2 l++(rk 1 l++rk 0 l))))) (by simp[zaz]) (by intro a ha;simp only[List.mem_append]at ha;rcases ha with h|h|h|h<;>(have:=mm _ _ h;omega)) (by intro b hb;simp only[List.mem_append]at hb;rcases hb with h|h|h|h|h|h<;>(have:=mm _ _ h;omega))]
   simp[zaz,zes,h]
  ·rw[mid (rk 9 l++(rk 8 l++rk 7 l)) (rk 6 l++(rk 5 l++(rk 4 l++(rk 3 l++(rk 2 l++(rk 1 l++rk 0 l)))))) (by simp[zaz]) (by intro a ha;simp only[List.mem_append]at ha;rcases ha with h|h|h<;>(have:=mm _ _ h;omega)) (by intro b hb;simp only[List.mem_append]at hb;rcases hb with h|h|h|h|h|h|h<;>(have:=mm _ _ h;omega))]
   simp[zaz,zes,h]
  ·rw[mid (rk 9 l++rk 8 l) (rk 7 l++(rk 6 l++(rk 5 l++(rk 4 l++(rk 3 l++(rk 2 l++(rk 1 l++rk 0 l))))))) (by simp[zaz]) (by intro a ha;simp only[List.mem_append]at ha;rcases ha with h|h<;>(have:=mm _ _ h;omega)) (by intro b hb;simp only[List.mem_append]at hb;rcases hb with h|h|h|h|h|h|h|h<;>(have:=mm _ _ h;omega))]
   simp[zaz,zes,h]
  ·rw[mid (rk 9 l) (rk 8 l++(rk 7 l++(rk 6 l++(rk 5 l++(rk 4 l++(rk 3 l++(rk 2 l++(rk 1 l++rk 0 l)))))))) (by simp[zaz]) (by intro a ha;have:=mm _ _ ha;omega) (by intro b hb;simp only[List.mem_append]at hb;rcases hb with h|h|h|h|h|h|h|h|h<;>(have:=mm _ _ h;omega))]
   simp[zaz,zes,h]
def zbq (record day:Int) (x:Hold):Bool:=x.Record==record&&x.State==1&&decide (x.Asleep≤day)
theorem zacp (record day:Int) (x:Hold):(x.State==1&&x.Record==record&&decide (x.Asleep≤day))=zbq record day x:=by
 unfold zbq
 cases x.Record==record<;>cases x.State==1<;>rfl
theorem z9m (y z:Hold) (hy:rng 0 9 y.Rank=true) (hz:rng 0 9 z.Rank=true):decide (wr .i64 (z.Rank-y.Rank)<0)=ltR y z:=by
 have h1:=zbw.1 hy
 have h2:=zbw.1 hz
 rw[zcn (by omega) (by omega)]
 unfold ltR
 rw[decide_eq_decide];omega
theorem zafn {lt:Hold→Hold→Bool} {y x:Hold}:∀{r rest:List Hold},x∈insW lt y r rest→x=y∨x∈r∨x∈rest:=by
 intro r
 induction r with
 |nil=>intro rest h;simp only[insW,List.mem_cons]at h;rcases h with h|h<;>simp[h]
 |cons z zs ih=>
  intro rest h
  simp only[insW]at h
  cases hb:lt y z with
  |true=>
   rw[hb]at h
   rcases ih h with h|h|h
   ·exact .inl h
   ·exact .inr (.inl (List.mem_cons_of_mem _ h))
   ·rcases List.mem_cons.1 h with h|h
    ·subst h;exact .inr (.inl (List.mem_cons_self ..))
    ·exact .inr (.inr h)
  |false=>
   rw[hb]at h
   simp only[cond_false,List.mem_append,List.mem_reverse,List.mem_cons]at h
   rcases h with h|h|h|h
   ·exact .inr (.inl (List.mem_cons_of_mem _ h))
   ·subst h;exact .inr (.inl (List.mem_cons_self ..))
   ·exact .inl h
   ·exact .inr (.inr h)
theorem z1d {lt lt':Hold→Hold→Bool} {y:Hold}:∀{r rest:List Hold},(∀z∈r,lt y z=lt' y z)→insW lt y r rest=insW lt' y r rest:=by
 intro r
 induction r with
 |nil=>intros;rfl
 |cons z zs ih=>
  intro rest h
  simp only[insW]
  rw[h z (List.mem_cons_self ..),ih (fun z hz=>h z (List.mem_cons_of_mem _ hz))]
theorem zach {lt lt':Hold→Hold→Bool}:∀(m l:List Hold),l=m.reverse→(∀x∈l,∀y∈l,lt x y=lt' x y)→zfb lt l=zfb lt' l∧∀x∈zfb lt' l,x∈l:=by
 intro m
 induction m with
 |nil=>intro l h _;subst h;exact ⟨rfl,fun x hx=>by cases hx⟩
 |cons y m ih=>
  intro l h hc
  rw[List.reverse_cons]at h
  subst h
  obtain ⟨e1,e2⟩:=ih m.reverse rfl (fun a ha b hb=>hc a (by simp at ha ⊢;exact .inl ha) b (by simp at hb ⊢;exact .inl hb))
  rw[zgc,zgc,e1]
  refine ⟨z1d (fun z hz=>hc y (by simp) z ?_),fun x hx=>?_⟩
  ·rw[List.mem_reverse]at hz
   have:=e2 z hz
   simp at this ⊢;exact .inl this
  ·rcases zafn hx with h|h|h
   ·subst h;simp
   ·rw[List.mem_reverse]at h
    have:=e2 x h
    simp at this ⊢;exact .inl this
   ·cases h
theorem z2q {l:List Hold} (hl:l.length<20) (hr:∀x∈l,rng 0 9 x.Rank=true):qeb (fun (g:Unit×Unit) x0 x1=>qb9 x0 x1) l ((),())=some (zaz l):=by
 rw[zayv (lt:=fun y z=>decide (wr .i64 (z.Rank-y.Rank)<0)) (fun y z=>⟨_,rfl,rfl⟩) hl]
 congr 1
 rw[(zach l.reverse l (by simp) (fun x hx y hy=>z9m x y (hr x hx) (hr y hy))).1]
 exact zwd l.reverse l (by simp) hr
end Go.Proofs.YtdahfgialanmpaaGreatDoor
namespace Go.Proofs.YtdahfgialanmpaaGreatDoor
open Ev
open Go (IntKind)
theorem zkk {X:Type} (p:X→Bool):∀(l o:List X),l.foldl (fun s y=>bif p y then s++[y] else s) o=o++l.filter p:=by
 intro l
 induction l with
 |nil=>intro o;simp
 |cons x l ih=>intro o;rw[List.foldl_cons,ih,List.filter_cons];cases p x<;>simp
theorem zi0 {X Y:Type} (p:X→Bool) (f:X→Y):∀(l:List X) (o:List Y),l.foldl (fun s y=>bif p y then s++[f y] else s) o=o++(l.filter p).map f:=by
 intro l
 induction l with
 |nil=>intro o;simp
 |cons x l ih=>intro o;rw[List.foldl_cons,ih,List.filter_cons];cases p x<;>simp
theorem za4x {l:List Hold} {record day:Int} (hl:l.length<1000000) (h20:(l.filter (zbq record day)).length<20) (hr:∀x∈l,rng 0 9 x.Rank=true):qh l record day=some (zaz (l.filter (zbq record day))):=by
 have h:=zbg (step:=z2i) (fun (i:Nat) (s:List Hold)=>s.length≤i) (fun i s=>(record,day,l,(l.length:Int),(i:Int),s,())) l
  (fun i y s=>.inl (bif zbq record day y then s++[y] else s)) (fun s=>(s,())) (by rw[za6];omega)
  (fun s _=>by simp only[z2i,dge,cond_false])
  (fun i y s hx hi=>by
   have hlt:=(List.getElem?_eq_some_iff.1 hx).1
   have l1:decide (s.length+([y]:List Hold).length≤LIM)=true:=zeb (by simp;omega)
   refine ⟨?_,fun s' hs'=>?_⟩
   ·simp -zeta only[z2i,dlt hlt,zai,hx,cond_true,l1,za7,zap (show i<9223372036854775807 by omega)]
    unfold zbq
    dsimp only
    cases (y.Record==record&&y.State==1&&decide (y.Asleep≤day))<;>rfl
   ·cases hs'
    cases zbq record day y<;>simp<;>omega) [] (by simp)
 rw[zdk]at h
 unfold qh
 rw[show zae z2i (record,day,l,(l.length:Int),0,[],())=_ from h,zkk,List.nil_append]
 simp only
 rw[z2q h20 (fun x hx=>hr x (List.mem_filter.1 hx).1)]
theorem z2a {l:List Hold} {record day rank:Int} (hl:l.length<1000000) (s:List Int) (hs:s.length<100000000):zae zlg (l,record,day,rank,0,s,())=some (l,record,day,rank,s++(rk rank (l.filter (zbq record day))).map (fun x=>x.ID),()):=by
 have h:=zbg (step:=zlg) (fun (i:Nat) (o:List Int)=>o.length≤s.length+i) (fun i o=>(l,record,day,rank,(i:Int),o,())) l
  (fun i y o=>.inl (bif zbq record day y&&y.Rank==rank then o++[y.ID] else o)) (fun o=>(l,record,day,rank,o,())) (by rw[za6];omega)
  (fun o _=>by simp only[zlg,dge,cond_false])
  (fun i y o hx hi=>by
   have hlt:=(List.getElem?_eq_some_iff.1 hx).1
   have l1:decide (o.length+([y.ID]:List Int).length≤LIM)=true:=zeb (by simp;omega)
   refine ⟨?_,fun s' hs'=>?_⟩
   ·simp -zeta only[zlg,dlt hlt,zai,hx,cond_true,l1,za7,zap (show i<9223372036854775807 by omega)]
    dsimp only
    rw[zacp]
    cases (zbq record day y&&y.Rank==rank)<;>rfl
   ·cases hs'
    cases (zbq record day y&&y.Rank==rank)<;>simp<;>omega) s (by omega)
 rw[zdk]at h
 rw[show zae zlg (l,record,day,rank,0,s,())=_ from h]
 have e:(fun (s:List Int) (x:Hold)=>bif zbq record day x&&x.Rank==rank then s++[x.ID] else s)=(fun s x=>bif (fun y=>zbq record day y&&y.Rank==rank) x then s++[(fun z:Hold=>z.ID) x] else s):=rfl
 rw[e,zi0]
 unfold rk
 rw[List.filter_filter]
 have e2:(fun y:Hold=>zbq record day y&&y.Rank==rank)=(fun a=>a.Rank==rank&&zbq record day a):=by funext y;rw[Bool.and_comm]
 rw[e2]
def dn (q:List Hold):Nat→List Hold
 |0=>[]
 |k+1=>rk (k:Int) q++dn q k
theorem z36 (q:List Hold):zaz q=dn q 10:=by
 simp[zaz,dn]
theorem zts {k:Int} {q:List Hold}:(rk k q).length≤q.length:=List.length_filter_le _ _
theorem zau5 {l:List Hold} {record day:Int} (hl:l.length<1000000):∀(k:Nat) (s:List Int),k≤10→s.length+k*1000000<100000000→
 za1 ztm (k+1) (l,record,day,(k:Int)-1,s,())=some (s++(dn (l.filter (zbq record day)) k).map (fun x=>x.ID),()):=by
 intro k
 induction k with
 |zero=>
  intro s _ _
  simp only[za1,dn,List.map_nil,List.append_nil]
  try rfl
 |succ k ih=>
  intro s hk hs
  have e:((k+1:Nat):Int)-1=(k:Int):=by omega
  have hlen:(rk (k:Int) (l.filter (zbq record day))).length≤l.length:=Nat.le_trans zts (List.length_filter_le _ _)
  rw[za1]
  have d2:decide ((0:Int)≤(k:Int))=true:=by rw[decide_eq_true_eq];omega
  simp only[ztm,d2,cond_true,e,z2a hl s (by omega)]
  rw[zcn (n:=(k:Int)-1) (by omega) (by omega),ih _ (by omega) (by rw[List.length_append,List.length_map];omega)]
  simp only[dn,List.map_append,List.append_assoc]
theorem za2a {l:List Hold} {record day:Int} (hl:l.length<1000000):qaa l record day=some ((zaz (l.filter (zbq record day))).map (fun x=>x.ID)):=by
 have h:=zau5 (record:=record) (day:=day) hl 10 [] (by omega) (by simp)
 unfold qaa
 rw[show zae ztm (l,record,day,9,([]:List Int),())=_ from zbf 11 (by rw[za6];omega) h,List.nil_append,z36]
theorem zf7 {q:List Hold} {x:Hold} (h:x∈zaz q):x∈q:=by
 have k:∀(k:Int),x∈rk k q→x∈q:=fun k h=>(List.mem_filter.1 h).1
 unfold zaz at h
 simp only[List.mem_append]at h
 rcases h with h|h|h|h|h|h|h|h|h|h<;>exact k _ h
def zqb (branch:Int) (vlocal:Bool) (x:Item) (h:Hold) (first:Int):Int⊕Int:=
 bif !(h.Item==0)&&!(h.Item==x.ID) then .inl first
 else bif !vlocal||h.Pickup==branch then .inr h.ID
 else .inl (bif first==0 then h.ID else first)
def ztj (branch:Int) (vlocal:Bool) (x:Item) (h:Hold) (first:Int):Int⊕Int:=
 bif !(h.Item==0)&&!(h.Item==x.ID) then .inl first
 else bif vlocal&&h.Pickup==branch then .inr h.ID
 else .inl (bif first==0 then h.ID else first)
def zhj (branch:Int) (vlocal:Bool) (x:Item):List Hold→Int→Int
 | [],first=>first
 |h::q,first=>match zqb branch vlocal x h first with | .inl f=>zhj branch vlocal x q f | .inr r=>r
def zgq (branch:Int) (vlocal:Bool) (x:Item):List Hold→Int→Int
 | [],first=>first
 |h::q,first=>match ztj branch vlocal x h first with | .inl f=>zgq branch vlocal x q f | .inr r=>r
theorem z1z {branch:Int} {x:Item}:∀{q:List Hold} {f:Int},f≠0→zgq branch false x q f=f:=by
 intro q
 induction q with
 |nil=>intros;rfl
 |cons h q ih=>
  intro f hf
  have h0:(f==0)=false:=by simpa using hf
  simp only[zgq,ztj,Bool.false_and,cond_false,h0]
  cases (!(h.Item==0)&&!(h.Item==x.ID))<;>exact ih hf
theorem z82 {branch:Int} {vlocal:Bool} {x:Item}:∀{q:List Hold} {f:Int},(∀h∈q,h.ID≠0)→(vlocal=false→f=0)→zhj branch vlocal x q f=zgq branch vlocal x q f:=by
 intro q
 induction q with
 |nil=>intros;rfl
 |cons h q ih=>
  intro f hq hf
  simp only[zhj,zgq,zqb,ztj]
  cases (!(h.Item==0)&&!(h.Item==x.ID)) with
  |true=>exact ih (fun y hy=>hq y (List.mem_cons_of_mem _ hy)) hf
  |false=>
   cases vlocal with
   |true=>
    cases h.Pickup==branch with
    |true=>rfl
    |false=>exact ih (fun y hy=>hq y (List.mem_cons_of_mem _ hy)) (fun e=>by cases e)
   |false=>
    have:=hf rfl
    subst this
    exact (z1z (hq h (List.mem_cons_self ..))).symm
end Go.Proofs.YtdahfgialanmpaaGreatDoor
namespace Go.Proofs.YtdahfgialanmpaaGreatDoor
open Ev
open Go (IntKind)
theorem zg7 {l:List Hold} (hsort:∀i x,l[i]?=some x→zbp l i (fun y=>decide (x.ID≤y.ID))=false) {h:Hold} (hm:h∈l):getH l h.ID=(h,true):=by
 unfold getH
 rw[zma (key:=fun y:Hold=>y.ID) hsort hm]
theorem z10 {β:Type} {branch:Int} {vlocal:Bool} {x:Item} (fin:Int→β) (out:Int→β) (hfo:∀v:Int,True):∀(q:List Hold) (i:Nat) (f:Int),∃r:Int⊕Int,(match r with | .inl v=>v | .inr v=>v)=zhj branch vlocal x q f∧
 zc5 (fun (_:Nat) h f=>match zqb branch vlocal x h f with | .inl f=>.inl f | .inr v=>.inr (out v)) fin i q f=(match r with | .inl v=>fin v | .inr v=>out v):=by
 intro q
 induction q with
 |nil=>intro i f;exact ⟨.inl f,rfl,rfl⟩
 |cons h q ih=>
  intro i f
  simp only[zc5,zhj]
  cases zqb branch vlocal x h f with
  |inl f'=>exact ih (i+1) f'
  |inr v=>exact ⟨.inr v,rfl,rfl⟩
theorem z11 {β:Type} {branch:Int} {vlocal:Bool} {x:Item} (fin:Int→β) (out:Int→β) (hfo:∀v:Int,True):∀(q:List Hold) (i:Nat) (f:Int),∃r:Int⊕Int,(match r with | .inl v=>v | .inr v=>v)=zgq branch vlocal x q f∧
 zc5 (fun (_:Nat) h f=>match ztj branch vlocal x h f with | .inl f=>.inl f | .inr v=>.inr (out v)) fin i q f=(match r with | .inl v=>fin v | .inr v=>out v):=by
 intro q
 induction q with
 |nil=>intro i f;exact ⟨.inl f,rfl,rfl⟩
 |cons h q ih=>
  intro i f
  simp only[zc5,zgq]
  cases ztj branch vlocal x h f with
  |inl f'=>exact ih (i+1) f'
  |inr v=>exact ⟨.inr v,rfl,rfl⟩
theorem zg0 {q:List Hold}:(zaz q).length≤10*q.length:=by
 have k:∀n:Int,(rk n q).length≤q.length:=fun n=>zts
 unfold zaz
 simp only[List.length_append]
 have:=k 0;have:=k 1;have:=k 2;have:=k 3;have:=k 4;have:=k 5;have:=k 6;have:=k 7;have:=k 8;have:=k 9
 omega
theorem zal4 {l:List Hold} {x:Item} {branch day:Int} {vlocal:Bool} (hl:l.length<1000000) (h20:(l.filter (zbq x.Record day)).length<20) (hr:∀x∈l,rng 0 9 x.Rank=true) :
 qaw l x branch day vlocal=some (zhj branch vlocal x (zaz (l.filter (zbq x.Record day))) 0):=by
 unfold qaw
 rw[za4x hl h20 hr]
 have hq:(zaz (l.filter (zbq x.Record day))).length<1000:=by have:=zg0 (q:=l.filter (zbq x.Record day));omega
 generalize zaz (l.filter (zbq x.Record day))=q at hq ⊢
 have h:=zdn (step:=zn8) (fun i f=>(branch,vlocal,f,q,(q.length:Int),(i:Int),x,())) q
  (fun _ h f=>match zqb branch vlocal x h f with | .inl f=>.inl f | .inr v=>.inr (.inr (v,()))) (fun f=>.inl (f,())) (by rw[za6];omega)
  (fun f=>by simp only[zn8,dge,cond_false])
  (fun i y f hx=>by
   have hlt:=(List.getElem?_eq_some_iff.1 hx).1
   simp -zeta only[zn8,dlt hlt,zai,hx,cond_true,k_or,za7,zap (show i<9223372036854775807 by omega)]
   unfold zqb
   dsimp only
   cases (!(y.Item==0)&&!(y.Item==x.ID)) with
   |true=>rfl
   |false=>
    cases (!vlocal||y.Pickup==branch) with
    |true=>rfl
    |false=>cases f==0<;>rfl) 0
 obtain ⟨r,r1,r2⟩:=z10 (branch:=branch) (vlocal:=vlocal) (x:=x) (fun f=>(.inl (f,()):(Int×Unit)⊕(Int×Unit))) (fun v=>.inr (v,())) (fun _=>trivial) q 0 0
 rw[r2]at h
 simp only
 rw[show zae zn8 (branch,vlocal,0,q,(q.length:Int),0,x,())=_ from h,←r1]
 cases r<;>rfl
theorem za2n {l:List Hold} {x:Item} {branch day:Int} {vlocal:Bool} (hl:l.length<1000000) (hsort:∀i x,l[i]?=some x→zbp l i (fun y=>decide (x.ID≤y.ID))=false) :
 qb0 l x branch day vlocal=some (zgq branch vlocal x (zaz (l.filter (zbq x.Record day))) 0):=by
 unfold qb0
 rw[za2a hl]
 have hq:(zaz (l.filter (zbq x.Record day))).length<100000000:=by
  have:=zg0 (q:=l.filter (zbq x.Record day))
  have:=List.length_filter_le (zbq x.Record day) l
  omega
 have hm:∀h∈zaz (l.filter (zbq x.Record day)),h∈l:=fun h hh=>(List.mem_filter.1 (zf7 hh)).1
 generalize zaz (l.filter (zbq x.Record day))=q at hq hm ⊢
 have h:=zdn (step:=zob) (fun i f=>(l,branch,vlocal,q.map (fun x=>x.ID),f,(i:Int),x,())) q
  (fun _ h f=>match ztj branch vlocal x h f with | .inl f=>.inl f | .inr v=>.inr (.inr (v,()))) (fun f=>.inl (f,())) (by rw[za6];omega)
  (fun f=>by
   have d:decide ((q.length:Int)<((q.map (fun x=>x.ID)).length:Int))=false:=by rw[decide_eq_false_iff_not,List.length_map];omega
   simp only[zob,d,cond_false])
  (fun i y f hx=>by
   have hlt:=(List.getElem?_eq_some_iff.1 hx).1
   have d:decide ((i:Int)<((q.map (fun x=>x.ID)).length:Int))=true:=by rw[decide_eq_true_eq,List.length_map];omega
   have gx:(q.map (fun x=>x.ID))[i]?=some y.ID:=by rw[List.getElem?_map,hx];rfl
   simp -zeta only[zob,d,zai,gx,cond_true,k_or,za7,z87 (show l.length<1000000000 by omega),zg7 hsort (hm y (List.mem_of_getElem? hx)),zap (show i<9223372036854775807 by omega)]
   unfold ztj
   dsimp only
   cases (!(y.Item==0)&&!(y.Item==x.ID)) with
   |true=>rfl
   |false=>
    cases (vlocal&&y.Pickup==branch) with
    |true=>rfl
    |false=>cases f==0<;>rfl) 0
 obtain ⟨r,r1,r2⟩:=z11 (branch:=branch) (vlocal:=vlocal) (x:=x) (fun f=>(.inl (f,()):(Int×Unit)⊕(Int×Unit))) (fun v=>.inr (v,())) (fun _=>trivial) q 0 0
 rw[r2]at h
 simp only
 rw[show zae zob (l,branch,vlocal,q.map (fun x=>x.ID),0,0,x,())=_ from h,←r1]
 cases r<;>rfl
theorem z09 {c:Circ} (h:FitP c) {o:Hold} (ho:o∈c.Holds):rng 0 9 o.Rank=true∧o.ID≠0:=by
 have:=zni h.holds ho
 unfold zbl at this
 have:=zb4 this (by decide)
 simp only[Bool.or_eq_false_iff,decide_eq_false_iff_not]at this
 obtain ⟨⟨hx,h1⟩,h2⟩:=this
 refine ⟨by rw[zbw];omega,?_⟩
 have:=hx.1.1.1.1.1.1.1.1.1.1
 omega
end Go.Proofs.YtdahfgialanmpaaGreatDoor
namespace Go.Proofs.YtdahfgialanmpaaGreatDoor
open Ev
open Go (IntKind)
end Go.Proofs.YtdahfgialanmpaaGreatDoor
namespace Go.Proofs.YtdahfgialanmpaaGreatDoor
open Ev
open Go (IntKind)
def ze2 (c:Circ) (l:List Hold):Circ:=⟨c.Today,c.Items,c.Patrons,c.Loans,l,c.Charges,c.Rules,c.Cals,c.Moves,c.NextHold,c.NextCharge,c.Local⟩
theorem zgj (c:Circ) (l:List Hold) (e:Int) (he:e≠0):qco l e ⟨c,0⟩=some ((),⟨ze2 c c.Holds,e⟩):=by
 have h:(e==0)=false:=by simpa using he
 unfold qco qt
 simp only[h,Bool.not_false,cond_true,beq_self_eq_true,cond_false]
 try rfl
end Go.Proofs.YtdahfgialanmpaaGreatDoor
namespace Go.Proofs.YtdahfgialanmpaaGreatDoor
open Ev
open Go (IntKind)
def zm3 {X:Type} (i:Int) (upd:X→X):Nat→List X→List X
 |_,[]=>[]
 |k,x::l=>(bif (k:Int)==i then upd x else x)::zm3 i upd (k+1) l
theorem z26 {X:Type} {i:Nat} {upd:X→X}:∀{l:List X} {k:Nat},i<k→zm3 (i:Int) upd k l=l:=by
 intro l
 induction l with
 |nil=>intros;rfl
 |cons x l ih=>
  intro k h
  have:((k:Int)==(i:Int))=false:=by
   have hne:¬(k:Int)=(i:Int):=by omega
   simpa using hne
  simp only[zm3,this,cond_false]
  rw[ih (by omega)]
theorem zacj {X:Type} {upd:X→X} {x:X}:∀{l:List X} {k j:Nat},l[j]?=some x→zm3 ((k+j:Nat):Int) upd k l=l.set j (upd x):=by
 intro l
 induction l with
 |nil=>intro k j h;simp at h
 |cons y l ih=>
  intro k j h
  cases j with
  |zero=>
   simp at h
   subst h
   have:((k:Int)==((k+0:Nat):Int))=true:=by simp
   simp only[zm3,this,cond_true,List.set_cons_zero]
   rw[z26 (by omega)]
  |succ j=>
   have hne:((k:Int)==((k+(j+1):Nat):Int))=false:=by
    have:¬(k:Int)=((k+(j+1):Nat):Int):=by omega
    simpa using this
   simp only[zm3,hne,cond_false,List.set_cons_succ]
   have:=ih (k:=k+1) (j:=j) (by simpa using h)
   rw[show k+1+j=k+(j+1) by omega]at this
   rw[this]
theorem z9y {X β:Type} {i:Int} {upd:X→X} {g:List X→β}:∀{l:List X} {k:Nat} {s:List X},zc5 (fun (k:Nat) x (s:List X)=>.inl (s++[bif (k:Int)==i then upd x else x])) g k l s=g (s++zm3 i upd k l):=by
 intro l
 induction l with
 |nil=>intro k s;simp[zc5,zm3]
 |cons x l ih=>intro k s;simp only[zc5,zm3];rw[ih];simp
def zfk (u:Custody) (x:Item):Item:=⟨x.ID,x.Record,x.Branch,x.Kind,x.Price,x.Call,u⟩
def zco (c:Circ) (i:Nat) (x:Item) (m:Move) (u:Custody):Circ:=⟨c.Today,c.Items.set i (zfk u x),c.Patrons,c.Loans,c.Holds,c.Charges,c.Rules,c.Cals,c.Moves++[m],c.NextHold,c.NextCharge,c.Local⟩
def zmx (c:Circ) (e:Int):Int:=bif e==0&&decide (2000≤(c.Moves.length:Int)) then 13 else e
theorem zij {c:Circ} {i:Nat} {x:Item} {kind branch who:Int} (hs:Short c) (hm:c.Moves.length<100000000) (hx:c.Items[i]?=some x) :
 qbj (i:Int) kind branch who ⟨c,0⟩=some ((),bif zmx c (za8 x.Custody ⟨c.Today,x.ID,kind,branch,who⟩).2==0 then ⟨zco c i x ⟨c.Today,x.ID,kind,branch,who⟩ (za8 x.Custody ⟨c.Today,x.ID,kind,branch,who⟩).1,0⟩ else ⟨c,zmx c (za8 x.Custody ⟨c.Today,x.ID,kind,branch,who⟩).2⟩):=by
 have hc1:qcs c.Items=some c.Items:=by unfold qcs;rw[zi5 hs.items];rfl
 have hc2:qdr c.Moves=some c.Moves:=by unfold qdr;rw[zi5 hs.moves];rfl
 have l1:decide (c.Moves.length+([(⟨c.Today,x.ID,kind,branch,who⟩:Move)]:List Move).length≤LIM)=true:=zeb (by simp;omega)
 unfold qbj zmx
 simp -zeta only[beq_self_eq_true,Bool.not_true,cond_false,zai,hx,za25,za7]
 generalize za8 x.Custody ⟨c.Today,x.ID,kind,branch,who⟩=q
 obtain ⟨u,e⟩:=q
 dsimp only
 cases hb:(e==0&&decide (2000≤(c.Moves.length:Int))) with
 |true=>
  simp only[cond_true,qt,beq_self_eq_true]
  try rfl
 |false=>
  simp only[cond_false]
  cases he:e==0 with
  |true=>
   have:e=0:=by simpa using he
   subst this
   simp only[Bool.not_true,cond_false,cond_true,hc1,hc2,zai,hx,Int.toNat_natCast,l1]
   try rfl
  |false=>
   simp only[Bool.not_false,cond_true,cond_false,qt,beq_self_eq_true]
theorem zvo {c:Circ} {i:Nat} {m:Move} {u:Custody} (hs:Short c):zae zgs ((i:Int),0,c,zhg,m,u,[],())=some (c,zhg,m,zm3 (i:Int) (zfk u) 0 c.Items,()):=by
 have h:=zbg (step:=zgs) (fun (k:Nat) (s:List Item)=>s.length≤k) (fun k s=>((i:Int),(k:Int),c,zhg,m,u,s,())) c.Items
  (fun k x s=>.inl (s++[bif (k:Int)==(i:Int) then zfk u x else x])) (fun s=>(c,zhg,m,s,())) (by rw[za6];have:=hs.items;omega)
  (fun s _=>by simp only[zgs,dge,cond_false])
  (fun k x s hx hi=>by
   have hlt:=(List.getElem?_eq_some_iff.1 hx).1
   have:=hs.items
   have l1:∀y:Item,decide (s.length+([y]:List Item).length≤LIM)=true:=fun y=>zeb (by simp;omega)
   refine ⟨?_,fun s' hs'=>?_⟩
   ·simp only[zgs,dlt hlt,zai,hx,cond_true,l1,zap (show k<9223372036854775807 by omega)]
    cases (k:Int)==(i:Int)<;>rfl
   ·cases hs'
    simp
    omega) [] (by simp)
 rw[z9y]at h
 exact h
theorem za2g {c:Circ} {item:Int} {i:Nat} {x:Item} {kind branch who:Int} (hs:Short c) (hm:c.Moves.length<100000000) (hat:qi c item=some (i:Int)) (hx:c.Items[i]?=some x) (hid:x.ID=item) :
 qaj c item kind branch who=some (bif zmx c (za8 x.Custody ⟨c.Today,x.ID,kind,branch,who⟩).2==0 then (zco c i x ⟨c.Today,x.ID,kind,branch,who⟩ (za8 x.Custody ⟨c.Today,x.ID,kind,branch,who⟩).1,0) else (zhg,zmx c (za8 x.Custody ⟨c.Today,x.ID,kind,branch,who⟩).2)):=by
 subst hid
 unfold qaj zmx
 rw[hat]
 simp only[zai,hx,zams]
 generalize za8 x.Custody ⟨c.Today,x.ID,kind,branch,who⟩=q
 obtain ⟨u,e⟩:=q
 simp only
 cases he:e==0 with
 |false=>simp only[Bool.not_false,cond_true,Bool.false_and,cond_false,he];rfl
 |true=>
  have:e=0:=by simpa using he
  subst this
  simp only[Bool.not_true,cond_false,Bool.true_and]
  cases decide (2000≤(c.Moves.length:Int)) with
  |true=>rfl
  |false=>
   have hw:=zvo (i:=i) (m:=⟨c.Today,x.ID,kind,branch,who⟩) (u:=u) hs
   have l1:decide (c.Moves.length≤LIM)=true:=by rw[decide_eq_true_eq];unfold LIM;omega
   have l2:decide (c.Moves.length+([(⟨c.Today,x.ID,kind,branch,who⟩:Move)]:List Move).length≤LIM)=true:=zeb (by simp;omega)
   have es:=zacj (upd:=zfk u) (l:=c.Items) (k:=0) (j:=i) hx
   rw[Nat.zero_add]at es
   rw[es]at hw
   simp only[cond_false]
   rw[show zae zgs ((i:Int),0,c,(⟨0,[],[],[],[],[],[],⟨⟨0,[]⟩,⟨0,[]⟩,⟨0,[]⟩,⟨0,[]⟩⟩,[],0,0,false⟩:Circ),(⟨c.Today,x.ID,kind,branch,who⟩:Move),u,([]:List Item),())=_ from hw]
   simp only[l1,l2,cond_true]
   try rfl
end Go.Proofs.YtdahfgialanmpaaGreatDoor
namespace Go.Proofs.YtdahfgialanmpaaGreatDoor
open Ev
open Go (IntKind)
theorem ztk {branch:Int} {vlocal:Bool} {x:Item}:∀{q:List Hold} {f:Int},zgq branch vlocal x q f=f∨∃h∈q,zgq branch vlocal x q f=h.ID:=by
 intro q
 induction q with
 |nil=>intro f;exact .inl rfl
 |cons h q ih=>
  intro f
  have lift:∀g:Int,(zgq branch vlocal x q g=g∨∃o∈q,zgq branch vlocal x q g=o.ID)→(g=f∨g=h.ID)→(zgq branch vlocal x q g=f∨∃o∈h::q,zgq branch vlocal x q g=o.ID):=by
   intro g hg hgf
   rcases hg with hg|⟨o,ho,hg⟩
   ·rcases hgf with e|e
    ·exact .inl (by rw[hg,e])
    ·exact .inr ⟨h,List.mem_cons_self ..,by rw[hg,e]⟩
   ·exact .inr ⟨o,List.mem_cons_of_mem _ ho,hg⟩
  simp only[zgq,ztj]
  cases (!(h.Item==0)&&!(h.Item==x.ID)) with
  |true=>exact lift f ih (.inl rfl)
  |false=>
   cases (vlocal&&h.Pickup==branch) with
   |true=>exact .inr ⟨h,List.mem_cons_self ..,rfl⟩
   |false=>
    cases f==0 with
    |true=>exact lift h.ID ih (.inr rfl)
    |false=>exact lift f ih (.inl rfl)
end Go.Proofs.YtdahfgialanmpaaGreatDoor
namespace Go.Proofs.YtdahfgialanmpaaGreatDoor
open Ev
open Go (IntKind)
end Go.Proofs.YtdahfgialanmpaaGreatDoor
namespace Go.Proofs.YtdahfgialanmpaaGreatDoor
open Ev
open Go (IntKind)
end Go.Proofs.YtdahfgialanmpaaGreatDoor
namespace Go.Proofs.YtdahfgialanmpaaGreatDoor
open Ev
open Go (IntKind)
theorem zpo (c:Circ) (n e0:Int) (h0:e0≠0):qbh n ⟨c,e0⟩=some ((zhg,0,e0),⟨c,e0⟩):=by
 have h:(e0==0)=false:=by simpa using h0
 unfold qbh
 simp only[h,Bool.not_false,cond_true]
 try rfl
theorem zu2 (c:Circ) (n:Int):qbh n ⟨c,0⟩=some ((c,n,0),⟨c,0⟩):=rfl
end Go.Proofs.YtdahfgialanmpaaGreatDoor
namespace Go.Proofs.YtdahfgialanmpaaGreatDoor
open Ev
open Go (IntKind)
theorem zvk {c:Circ} {i:Nat} {x:Item} {m:Move} {u:Custody} (hs:Short c) (hm:c.Moves.length<100000000) (hx:c.Items[i]?=some x):Short (zco c i x m u):=by
 obtain ⟨h1,h2,h3,h4,h5,h6,h7,h8,h9,h10,h11,h12,h13⟩:=hs
 refine ⟨?_,h2,h3,h4,h5,h6,?_,fun z hz=>?_,h9,h10,h11,h12,h13⟩
 ·show (c.Items.set i _).length<_
  rw[List.length_set];exact h1
 ·show (c.Moves++[m]).length<_
  simp;omega
 ·rcases List.mem_or_eq_of_mem_set hz with h|h
  ·exact h8 z h
  ·rw[h];exact h8 x (List.mem_of_getElem? hx)
theorem zkd {c:Circ} {l:List Hold} (hs:Short c) (hl:l.length<1000000000):Short (ze2 c l):=by
 obtain ⟨h1,h2,h3,h4,h5,h6,h7,h8,h9,h10,h11,h12,h13⟩:=hs
 exact ⟨h1,h2,h3,hl,h5,h6,h7,h8,h9,h10,h11,h12,h13⟩
end Go.Proofs.YtdahfgialanmpaaGreatDoor
namespace Go.Proofs.YtdahfgialanmpaaGreatDoor
open Ev
open Go (IntKind)
theorem zii {c:Circ} {id:Int} (hs:Short c):qdy id ⟨c,0⟩=some (fIdx (fun x=>x.ID==id) c.Items,⟨c,bif decide (fIdx (fun x=>x.ID==id) c.Items<0) then 9 else 0⟩):=by
 unfold qdy
 simp only[za2b hs.items]
 cases decide (fIdx (fun x:Item=>x.ID==id) c.Items<0)<;>rfl
end Go.Proofs.YtdahfgialanmpaaGreatDoor
namespace Go.Proofs.YtdahfgialanmpaaGreatDoor
open Ev
open Go (IntKind)
structure MidP (c:Circ):Prop where
 short:Short c
 moves:c.Moves.length<10000000
 holdsN:c.Holds.length<1000000
 sorted:∀(i:Nat) (x:Hold),c.Holds[i]?=some x→zbp c.Holds i (fun y=>decide (x.ID≤y.ID))=false
 rank:∀o∈c.Holds,rng 0 9 o.Rank=true∧o.ID≠0
 few:∀r,(c.Holds.filter (fun o=>o.Record==r)).length<20
 cal:∀b,CalOk (calS c b)
 rules:∀r∈c.Rules,zir r=true
 branch:∀x∈c.Items,rng 1 4 x.Custody.Branch=true
 ids:∀(i:Nat) (x:Item) (j:Nat) (y:Item),c.Items[i]?=some x→c.Items[j]?=some y→x.ID=y.ID→i=j
 chN:c.Charges.length<1000000
theorem zatf {c:Circ} (hm:SmallP c) (h:FitP c):MidP c:=by
 refine ⟨hm.short,by have:=hm.moves;omega,by have:=hm.holds;omega,zrp h.holds,fun o ho=>z09 h ho,fun r=>?_,zaob h,fun r hr=>zavf h hr,fun x hx=>z06 h hx,fun i x j y hx hy e=>?_,by have:=hm.charges;omega⟩
 ·have:=List.length_filter_le (fun o:Hold=>o.Record==r) c.Holds
  have:=hm.holds
  omega
 ·have hs:=zil h.items
  rcases Nat.lt_trichotomy i j with hl|hl|hl
  ·have:=zed (key:=fun y:Item=>y.ID) hs j i x y hl hx hy;omega
  ·exact hl
  ·have:=zed (key:=fun y:Item=>y.ID) hs i j y x hl hy hx;omega
theorem znx {c:Circ} (h:MidP c) {i:Nat} {x:Item} (hx:c.Items[i]?=some x):qi c x.ID=some (i:Int):=by
 rw[zahu h.short.items]
 rcases zbb (fun y:Item=>y.ID==x.ID) c.Items with ⟨h1,h2⟩|⟨j,y,h1,h2,h3,h4⟩
 ·have:=List.find?_eq_none.1 h2 x (List.mem_of_getElem? hx)
  simp at this
 ·rw[h1,h.ids i x j y hx h2 (by simpa using (by simpa using h3:y.ID=x.ID).symm)]
theorem zdv {X Y:Type} {f:X→Y} {l:List X} {j:Nat} {x y:X} (hx:l[j]?=some x) (hf:f y=f x):(l.set j y).map f=l.map f:=by
 rw[List.map_set,hf]
 apply List.ext_getElem?
 intro k
 rw[List.getElem?_set]
 split
 ·rename_i e
  subst e
  split
  ·rw[List.getElem?_map,hx];rfl
  ·rename_i hk
   have:=(List.getElem?_eq_some_iff.1 hx).1
   exact absurd (by simpa using this) hk
 ·rfl
theorem zatg {l m:List Item} (e:m.map (fun x=>x.ID)=l.map (fun x=>x.ID)) (h:∀(i:Nat) (x:Item) (j:Nat) (y:Item),l[i]?=some x→l[j]?=some y→x.ID=y.ID→i=j) :
 ∀(i:Nat) (x:Item) (j:Nat) (y:Item),m[i]?=some x→m[j]?=some y→x.ID=y.ID→i=j:=by
 have key:∀(i:Nat) (x:Item),m[i]?=some x→∃x',l[i]?=some x'∧x'.ID=x.ID:=by
  intro i x hx
  have h1:(m.map (fun x=>x.ID))[i]?=some x.ID:=by rw[List.getElem?_map,hx];rfl
  rw[e,List.getElem?_map]at h1
  cases hl:l[i]? with
  |none=>rw[hl]at h1;cases h1
  |some x'=>rw[hl]at h1;exact ⟨x',rfl,by simpa using h1⟩
 intro i x j y hx hy hxy
 obtain ⟨x',hx',ex⟩:=key i x hx
 obtain ⟨y',hy',ey⟩:=key j y hy
 exact h i x' j y' hx' hy' (by rw[ex,ey,hxy])
theorem z8w {c:Circ} (h:MidP c) {i:Nat} {x:Item} (hx:c.Items[i]?=some x) {m:Move} {u:Custody} (hu:rng 1 4 u.Branch=true) (hl:c.Moves.length<5000000):MidP (zco c i x m u):=by
 refine ⟨zvk h.short (by omega) hx,?_,h.holdsN,h.sorted,h.rank,h.few,h.cal,h.rules,fun y hy=>?_,?_,h.chN⟩
 ·show (c.Moves++[m]).length<_
  simp;omega
 ·rcases List.mem_or_eq_of_mem_set hy with hy|hy
  ·exact h.branch y hy
  ·rw[hy];exact hu
 ·exact zatg (zdv hx rfl) h.ids
theorem zmk {c:Custody} {m:Move} {u:Custody} (h:za8 c m=(u,0)):rng 1 4 u.Branch=true:=by
 have:=zgy (c:=c) (m:=m) (by rw[h];rfl)
 rw[h]at this
 exact this
theorem zjh {c:Circ} (h:MidP c) {i:Nat} {x:Item} (hx:c.Items[i]?=some x) (kind branch who:Int) :
 (∃u,za8 x.Custody ⟨c.Today,x.ID,kind,branch,who⟩=(u,0)∧qbj (i:Int) kind branch who ⟨c,0⟩=some ((),⟨zco c i x ⟨c.Today,x.ID,kind,branch,who⟩ u,0⟩)∧
  qaj c x.ID kind branch who=some (zco c i x ⟨c.Today,x.ID,kind,branch,who⟩ u,0)∧MidP (zco c i x ⟨c.Today,x.ID,kind,branch,who⟩ u))∨
 (∃e,e≠0∧qbj (i:Int) kind branch who ⟨c,0⟩=some ((),⟨c,e⟩)∧qaj c x.ID kind branch who=some (zhg,e)):=by
 have hmv:=h.moves
 have dm:=zij (kind:=kind) (branch:=branch) (who:=who) h.short (by omega) hx
 have rm:=za2g (kind:=kind) (branch:=branch) (who:=who) h.short (by omega) (znx h hx) hx rfl
 rw[dm,rm]
 cases ha:za8 x.Custody ⟨c.Today,x.ID,kind,branch,who⟩ with
 |mk u e=>
  by_cases hE:zmx c e=0
  ·left
   simp only[hE,beq_self_eq_true,cond_true]
   have he:e=0∧c.Moves.length<2000:=by
    unfold zmx at hE
    cases hb:(e==0&&decide (2000≤(c.Moves.length:Int))) with
    |true=>rw[hb]at hE;cases hE
    |false=>
     rw[hb]at hE
     simp only[cond_false]at hE
     subst hE
     simp only[beq_self_eq_true,Bool.true_and,decide_eq_false_iff_not]at hb
     exact ⟨rfl,by omega⟩
   obtain ⟨rfl,hlen⟩:=he
   exact ⟨u,rfl,rfl,rfl,z8w h hx (zmk ha) (by omega)⟩
  ·right
   have hE2:(zmx c e==0)=false:=by simpa using hE
   simp only[hE2,cond_false]
   exact ⟨zmx c e,hE,rfl,rfl⟩
theorem zahq {c:Circ} (h:MidP c) {i:Nat} {x:Item} (hx:c.Items[i]?=some x):∃v,qdo c x=some v∧qfy c x.ID=some v∧(getH c.Holds v).2=!(v==0)∧(v≠0→∃o∈c.Holds,o.ID=v∧getH c.Holds v=(o,true)∧zbq x.Record c.Today o=true):=by
 have hf:(c.Holds.filter (zbq x.Record c.Today)).length<20:=by
  have e:c.Holds.filter (zbq x.Record c.Today)=(c.Holds.filter (fun o=>o.Record==x.Record)).filter (zbq x.Record c.Today):=by
   rw[List.filter_filter]
   apply List.filter_congr
   intro o _
   unfold zbq
   cases o.Record==x.Record<;>simp
  rw[e]
  have:=List.length_filter_le (zbq x.Record c.Today) (c.Holds.filter (fun o=>o.Record==x.Record))
  have:=h.few x.Record
  omega
 have q1:=zal4 (l:=c.Holds) (x:=x) (branch:=x.Custody.Branch) (day:=c.Today) (vlocal:=c.Local) h.holdsN hf (fun o ho=>(h.rank o ho).1)
 have q2:=za2n (l:=c.Holds) (x:=x) (branch:=x.Custody.Branch) (day:=c.Today) (vlocal:=c.Local) h.holdsN h.sorted
 rw[z82 (fun o ho=>(h.rank o (List.mem_filter.1 (zf7 ho)).1).2) (fun _=>rfl)]at q1
 refine ⟨_,by unfold qdo;rw[q1],by unfold qfy;rw[znx h hx];simp only[zai,hx,q2],?_,?_⟩
 ·rcases ztk (branch:=x.Custody.Branch) (vlocal:=c.Local) (x:=x) (q:=zaz (c.Holds.filter (zbq x.Record c.Today))) (f:=0) with e|⟨o,ho,e⟩
  ·rw[e]
   unfold getH
   have:c.Holds.find? (fun h=>h.ID==0)=none:=by
    rw[List.find?_eq_none]
    intro o ho
    have:=(h.rank o ho).2
    simpa using this
   rw[this]
   try rfl
  ·rw[e]
   have hm:=(List.mem_filter.1 (zf7 ho)).1
   rw[zg7 h.sorted hm]
   have:=(h.rank o hm).2
   simp[this]
 ·intro hv
  rcases ztk (branch:=x.Custody.Branch) (vlocal:=c.Local) (x:=x) (q:=zaz (c.Holds.filter (zbq x.Record c.Today))) (f:=0) with e|⟨o,ho,e⟩
  ·exact absurd e hv
  ·have hm:=List.mem_filter.1 (zf7 ho)
   exact ⟨o,hm.1,e.symm,by rw[e];exact zg7 h.sorted hm.1,hm.2⟩
end Go.Proofs.YtdahfgialanmpaaGreatDoor
